/- Functions of the program, and what they come to. -/
import Derived.Test.YtolmneojjjpnjaaGreatTornLostF3
namespace Go.Tf
noncomputable section
open Go.Proofs Go.Proofs.Tryz IntKind
set_option synthInstance.maxHeartbeats 400000
set_option synthInstance.maxSize 10000
set_option linter.unusedVariables false
set_option linter.unusedSimpArgs false
set_option maxRecDepth 100000
def y2c:Code:=(f116.body).getD .skip
def y2n:Env:=zku TT [(72,ya4)] []
theorem yUR:FrOk prog ⟨y2n,10,fun _=>none⟩ y2c:=zky yf yg ⟨ycq,trivial⟩
abbrev yDB:List Par:= [.pt tU .fz]
abbrev yDT:List OT:= [⟨false,tG,(.pr .fz .fz)⟩]
def ykR (a0:dU):Option (zaY yDT×zak yDB) :=bnd (yo a0 3) fun r1 =>bnd (yo r1.2.1 4) fun r2 =>some ((((i64.wrap (3+r1.1.1)),(i64.wrap (1+r2.1.1))),()),(r2.2.1,()))
theorem yY2:ConOk prog 116 ⟨yDB,yDT,fun x=>ykR x.1⟩:=zkG (yUR) func116 ntmps116.symm fun x=>by kernel_rfl
def yHT:Con:=⟨yDB,yDT,fun x=>ykR x.1⟩
theorem y1M:ConOk prog 116 yHT:=yY2
theorem y5s (u:dU) (h:ycM u): ∃(g:dG) (u':dU),ykR u=some ((g,()),(u',()))∧yd g=true∧ycM u':=by
 unfold ykR;obtain⟨r1,u1,e1,q1,d1⟩:=yda u 3 h;obtain⟨r2,u2,e2,q2,d2⟩:=yda u1 4 d1;simp only[e1,e2,zkF];refine⟨_,_,rfl,?_,d2⟩;have:=q1.2.1 (by omega); have:=q2.2.1 (by omega); have:=q1.1; have:=q2.1;rw[wr (by omega) (by omega),wr (by omega) (by omega)];exact yl.2 ⟨⟨by show 3≤3+r1; omega,by show 3+r1≤5; omega⟩,by show 1≤1+r2; omega,by show 1+r2≤8; omega⟩
def y0F:Code:=(f83.body).getD .skip
def y1b:Env:=zku TT [(72,ya4)] []
theorem yQT:FrOk prog ⟨y1b,9,fun _=>none⟩ y0F:=zky yf yg ⟨ycq,trivial⟩
abbrev yAk:List Par:= [.pt tU .fz,.rd tI]
abbrev yAQ:List OT:= [⟨false,tB,.fz⟩]
def ycs (a0:dU) (a1:Int):Option (zaY yAQ×zak yAk) :=bnd (yo a0 a1) fun r1 =>some (((r1.1.1==0),()),(r1.2.1,()))
theorem yWa:ConOk prog 83 ⟨yAk,yAQ,fun x=>ycs x.1 x.2.1⟩:=zkG (yQT) func83 ntmps83.symm fun x=>by kernel_rfl
def yGr:Con:=⟨yAk,yAQ,fun x=>ycs x.1 x.2.1⟩
theorem yZl:ConOk prog 83 yGr:=yWa
theorem y3y (u:dU) (n:Int) (h:ycM u): ∃(r:Bool) (u':dU),ycs u n=some ((r,()),(u',()))∧ycM u':=by
 unfold ycs;obtain⟨r,u1,e1,_,d1⟩:=yda u n h;simp only[e1,zkF];exact⟨_,_,rfl,d1⟩
def yXj:Code:=(f143.body).getD .skip
def yXL:Env:=zku TT [(76,yi9)] [(12288,(.pr .fz .fz))]
theorem yN2:FrOk prog ⟨yXL,10,fun _=>none⟩ yXj:=zky yf yg ⟨ypI,trivial⟩
abbrev yxb:List Par:= [.rd tM]
abbrev yxx:List OT:= [⟨false,tM,(.pr (.ow .fz) (.pr (.ow (.pr .fz .fz)) (.pr .fz (.ow .fz))))⟩]
def yFo (a0:dM):Option (zaY yxx×zak yxb) :=let r1:=yaP a0;some (((r1.1,([]:List dW),true,r1.2.2.2),()),())
theorem ySr:ConOk prog 143 ⟨yxb,yxx,fun x=>yFo x.1⟩:=zkG (yN2) func143 ntmps143.symm fun x=>by kernel_rfl
def ypz (a0:dM):dM :=let r1:=yaP a0;(r1.1,([]:List dW),true,r1.2.2.2)
def yEo:Con:=⟨yxb,yxx,fun x=>(fun n=>some ((n,()),())) (ypz x.1)⟩
theorem yVx (a0:dM):yFo a0=(fun n=>some ((n,()),())) (ypz a0):=zkT (p:=fun(n:dM)=>((n,()),())) rfl
theorem yWB:ConOk prog 143 yEo:=(ySr).mono (fun x r _ h=>(yVx x.1).trans h)
def yXm:Code:=(f108.body).getD .skip
def yXO:Env:=zku TT [(143,yEo),(174,ynz)] []
theorem yN7:FrOk prog ⟨yXO,62,fun _=>none⟩ yXm:=zky yf yg ⟨yWB,yx0,trivial⟩
abbrev ykc:List Par:= [.pt tA (.pr .fz (.pr (.pr .fz .fz) (.pr (.ow (.pr (.ow .fz) (.pr (.ow (.pr .fz .fz)) (.pr .fz (.ow .fz))))) (.pr .fz (.pr .fz (.pr .fz (.pr .fz (.pr .fz (.pr (.ow (.pr .fz .fz)) (.pr .fz (.pr .fz .fz))))))))))),.rd tI]
abbrev ypj:List OT:= []
def ysM (a0:dA) (a1:Int):Option (zaY ypj×zak ykc) :=bif(inb a1 a0.2.2.1.length)then let r1:=ypz ((nth a0.2.2.1 a1 ([],[],false,[])).1,((nth a0.2.2.1 a1 ([],[],false,[])).2).1,(((nth a0.2.2.1 a1 ([],[],false,[])).2).2));bif(inb a1 a0.2.2.1.length)then bif(!(a0.2.2.2.1==(-1)))then bif(a0.2.2.2.1==a1)then bif(!a0.2.2.2.2.2.2.2.2.2.2.1)then bif(!a0.2.2.2.2.2.2.2.2.2.2.2)then bif(ltb a0.2.2.2.2.2.2.2.1 60000)then let r2:=ybc (a0.1,a0.2.1,(a0.2.2.1.set (a1).toNat r1),a1,0,a0.2.2.2.2.2);some ((),(r2,())) else some ((),((a0.1,a0.2.1,(a0.2.2.1.set (a1).toNat r1),a1,0,a0.2.2.2.2.2),())) else some ((),((a0.1,a0.2.1,(a0.2.2.1.set (a1).toNat r1),a1,0,a0.2.2.2.2.2),())) else some ((),((a0.1,a0.2.1,(a0.2.2.1.set (a1).toNat r1),a1,0,a0.2.2.2.2.2),())) else bif(!a0.2.2.2.2.2.2.2.2.2.2.1)then some ((),((a0.1,a0.2.1,(a0.2.2.1.set (a1).toNat r1),a0.2.2.2.1,a0.2.2.2.2.1,a0.2.2.2.2.2.1,a0.2.2.2.2.2.2.1,a0.2.2.2.2.2.2.2.1,a0.2.2.2.2.2.2.2.2.1,a0.2.2.2.2.2.2.2.2.2.1,a0.2.2.2.2.2.2.2.2.2.2.1,true),())) else some ((),((a0.1,a0.2.1,(a0.2.2.1.set (a1).toNat r1),a0.2.2.2.1,a0.2.2.2.2.1,a0.2.2.2.2.2.1,a0.2.2.2.2.2.2.1,a0.2.2.2.2.2.2.2.1,a0.2.2.2.2.2.2.2.2.1,a0.2.2.2.2.2.2.2.2.2.1,a0.2.2.2.2.2.2.2.2.2.2.1,true),())) else bif(!a0.2.2.2.2.2.2.2.2.2.2.1)then bif(!a0.2.2.2.2.2.2.2.2.2.2.2)then bif(ltb a0.2.2.2.2.2.2.2.1 60000)then let r3:=ybc (a0.1,a0.2.1,(a0.2.2.1.set (a1).toNat r1),a1,0,a0.2.2.2.2.2);some ((),(r3,())) else some ((),((a0.1,a0.2.1,(a0.2.2.1.set (a1).toNat r1),a1,0,a0.2.2.2.2.2),())) else some ((),((a0.1,a0.2.1,(a0.2.2.1.set (a1).toNat r1),a1,0,a0.2.2.2.2.2),())) else some ((),((a0.1,a0.2.1,(a0.2.2.1.set (a1).toNat r1),a1,0,a0.2.2.2.2.2),())) else none else none
theorem ySv:ConOk prog 108 ⟨ykc,ypj,fun x=>ysM x.1 x.2.1⟩:=zkG (yN7) func108 ntmps108.symm fun x=>by kernel_rfl
def ypA (a0:dA) (a1:Int):dA:=yia a0 a1
def yx3 (a0:dA) (a1:Int):Bool:=inb a1 a0.2.2.1.length
theorem yVB (a0:dA) (a1:Int) (hk:zjw ykc (a0,a1,())) (hq:yx3 a0 a1=true):ysM a0 a1=(fun n=>some ((),(n,()))) (ypA a0 a1):=by
 have hq:inb a1 a0.2.2.1.length=true:=hq;unfold ysM ypA yia yax yUn yao ya;simp only[hq,zkV,ypz,yaP,ybc];cases(a0.2.2.2.1== -1)<;>cases(a0.2.2.2.1==a1)<;>cases a0.2.2.2.2.2.2.2.2.2.2.1<;>cases a0.2.2.2.2.2.2.2.2.2.2.2<;>cases ltb a0.2.2.2.2.2.2.2.1 60000<;>rfl
def ykL (a0:dA) (a1:Int):Option (zaY ypj×zak ykc):=bif yx3 a0 a1 then(fun n=>some ((),(n,()))) (ypA a0 a1)else none
theorem yWM (a0:dA) (a1:Int) (h:yx3 a0 a1=true):ykL a0 a1=(fun n=>some ((),(n,()))) (ypA a0 a1):=by unfold ykL; rw[h]; rfl
def yEs:Con:=⟨ykc,ypj,fun x=>ykL x.1 x.2.1⟩
theorem yWF:ConOk prog 108 yEs:=(ySv).mono (fun x r hk h=>zkW h (fun hq=>yVB x.1 x.2.1 hk hq))
def ymV:Code:=(f112.body).getD .skip
def ytG:Env:=zku TT [(76,yi9),(82,yL),(160,ygX),(161,yxN)] []
theorem yLn:FrOk prog ⟨ytG,68,fun _=>none⟩ ymV:=zky yf yg ⟨ypI,yT,ymb,yJx,trivial⟩
def yBo:Nat→Option Seg:=fun _=>none
def ybn:Shape:=⟨[(1,false,[.int .i64]),(4,false,[.ptr 64 0]),(5,false,[.ptr 4224 0]),(6,false,[.int .i64])],[(64,[.nil,.nil,.bool,.nil]),(4224,[.at 800000000,.at 800000001,.bool,.at 800000002])],[(800000000,tL,.fz),(800000001,tW,(.pr .fz .fz)),(800000002,tI,.fz)]⟩
def yeD:Shape:=⟨[(1,false,[.int .i64]),(4,false,[.ptr 64 0]),(5,false,[.ptr 4224 0]),(6,false,[.int .i64])],[(64,[.nil,.nil,.bool,.nil]),(4224,[.at 800000000,.at 800000001,.bool,.at 800000002])],[(800000000,tL,.fz),(800000001,tW,(.pr .fz .fz)),(800000002,tI,.fz)]⟩
def yew:Shape:=⟨[(1,false,[.int .i64]),(4,false,[.ptr 64 0]),(5,false,[.ptr 4224 0]),(6,false,[.int .i64])],[(64,[.nil,.nil,.bool,.nil]),(4224,[.at 800000000,.at 800000001,.bool,.at 800000002])],[(800000000,tL,.fz),(800000001,tW,(.pr .fz .fz)),(800000002,tI,.fz)]⟩
def yhY:Shape:=⟨[],[],[]⟩
abbrev ylu (v0 v1:Int) (v2 v3:dM):(ybn).X:=(((v0,()),((),()),((),()),(v1,()),()),(((),(),v2.2.2.1,(),()),((),(),v3.2.2.1,(),()),()),(v3.1,v3.2.1,v3.2.2.2,()))
abbrev yI0 (v0 v1:Int) (v2 v3:dM):(yeD).X:=(((v0,()),((),()),((),()),(v1,()),()),(((),(),v2.2.2.1,(),()),((),(),v3.2.2.1,(),()),()),(v3.1,v3.2.1,v3.2.2.2,()))
abbrev yIU (v0 v1:Int) (v2 v3:dM):(yew).X:=(((v0,()),((),()),((),()),(v1,()),()),(((),(),v2.2.2.1,(),()),((),(),v3.2.2.1,(),()),()),(v3.1,v3.2.1,v3.2.2.2,()))
def ylI (v0 v1:Int) (v2 v3:Bool) (v4:List (List Int)) (v5:List dW) (v6:List Int):Option ((ybn).X ⊕ ((yew).X ⊕ (yhY).X)) :=bif(ltb 0 v1)then bif(inb (i64.wrap (v1-1)) v6.length)then bif(ltb v0 (nth v6 (i64.wrap (v1-1)) 0))then bif(inb (i64.wrap (v1-1)) v6.length)then bif(inb v1 v6.length)then some (.inl (((v0,()),((),()),((),()),((i64.wrap (v1-1)),()),()),(((),(),v2,(),()),((),(),v3,(),()),()),(v4,v5,(v6.set (v1).toNat (nth v6 (i64.wrap (v1-1)) 0)),()))) else none else none else some (.inr (.inl (((v0,()),((),()),((),()),(v1,()),()),(((),(),v2,(),()),((),(),v3,(),()),()),(v4,v5,v6,())))) else none else some (.inr (.inl (((v0,()),((),()),((),()),(v1,()),()),(((),(),v2,(),()),((),(),v3,(),()),()),(v4,v5,v6,()))))
def ybE (x:(ybn).X):=ylI x.1.1.1 x.1.2.2.2.1.1 x.2.1.1.2.2.1 x.2.1.2.1.2.2.1 x.2.2.1 x.2.2.2.1 x.2.2.2.2.1
def yu2 (x:(yeD).X):(ybn).X:=(((x.1.1.1,()),((),()),((),()),(x.1.2.2.2.1.1,()),()),(((),(),x.2.1.1.2.2.1,(),()),((),(),x.2.1.2.1.2.2.1,(),()),()),(x.2.2.1,x.2.2.2.1,x.2.2.2.2.1,()))
def yv8:Code:=(zeJ ymV 64 504).getD .skip
theorem yJJ:zeJ ymV 64 126=some (.block 0 (.loop yv8)):=by kernel_rfl
theorem yKs (x:(ybn).X):zhu ⟨ytG,68,yBo⟩ 0 yv8 504 ybn yew yhY x=ybE x:=by kernel_rfl
def yvb (x:(yeD).X):Nat:=18446744073709551616
def ymo (x:(yeD).X):Option ((yew).X ⊕ (yhY).X):=zF ybE (yvb x) (yu2 x)
def yvW:Seg:=⟨yeD,yew,yhY,ymo⟩
def yNc:Nat→Option Seg:=fun q=>bif Nat.beq q 126 then some yvW else yBo q
theorem yLo:FrOk prog ⟨ytG,68,yNc⟩ ymV:=(yLn).loop (sg:=yvW) ybn yu2 (by decide) yJJ ybE yvb (by decide) (fun _=>rfl) (fun x r _ h=>h) yKs
abbrev ynb:List Par:= [.rd tM,.rd tI]
abbrev yuv:List OT:= [⟨false,tM,(.pr (.ow .fz) (.pr (.ow (.pr .fz .fz)) (.pr .fz (.ow .fz))))⟩]
def yqM (a0:dM) (a1:Int):Option (zaY yuv×zak ynb) :=let r1:=yaP a0;let r2:=yaS a0;bif(!(!r2))then let r3:=yb a1 0 (i64.wrap ((a0.1.length:Int)-1));bif(!(!r3))then let r4:=yhJ a0.2.2.2 a1;bif r4 then some ((r1,()),()) else bif(zkj r1.2.2.2.length ([a1]:List Int).length 8)then zkr (ymo (((a1,()),((),()),((),()),((i64.wrap (((r1.2.2.2++([a1]:List Int)).length:Int)-1)),()),()),(((),(),false,(),()),((),(),r1.2.2.1,(),()),()),(r1.1,r1.2.1,(r1.2.2.2++([a1]:List Int)),()))) (fun y4 =>bif(inb y4.1.2.2.2.1.1 y4.2.2.2.2.1.length)then some (((y4.2.2.1,y4.2.2.2.1,y4.2.1.2.1.2.2.1,(y4.2.2.2.2.1.set (y4.1.2.2.2.1.1).toNat y4.1.1.1)),()),()) else none) (fun y4 =>none) else none else some ((r1,()),()) else some ((r1,()),())
theorem yO4:ConOk prog 112 ⟨ynb,yuv,fun x=>yqM x.1 x.2.1⟩:=zkG (yLo) func112 ntmps112.symm fun x=>by kernel_rfl
def ynD (a0:dM) (a1:Int):dM:=spoil a0 a1
theorem yW8 (n:Int) (m:dM) (p:List Int) (hp: ∀x∈p,x<n): ∀(j:Nat) (q1 q2:List Int) (x:Int) (fuel:Nat),q1.length=j→j<fuel→(∀y∈q1,n<y)→p.length+q1.length≤1000 →
  ∃(x':Int) (q':List Int),q1++q2=q'∧zF ybE fuel (ylu n ((p.length+q1.length:Nat):Int) yc (m.1,m.2.1,m.2.2.1,(p++q1)++x::q2))=some (.inl (yIU n (p.length:Nat) yc (m.1,m.2.1,m.2.2.1,p++x'::q')))
 | 0,q1,q2,x,fuel+1,hj,hf,hq,hb=>by
  have:q1= []:=List.length_eq_zero_iff.1 hj;subst this;refine⟨x,q2,rfl,?_⟩;simp only[zF,ybE,ylu,ylI,List.length_nil,Nat.add_zero,List.append_nil];rcases List.eq_nil_or_concat p with rfl | ⟨P,y,rfl⟩
  ·rfl
  ·have hy:=hp y (by simp)
   simp only[List.concat_eq_append,List.length_append,List.length_cons,List.length_nil,List.append_assoc,List.cons_append,List.nil_append]at hb ⊢
   rw[zkw (show(0:Int)<((P.length+(0+1):Nat):Int)by omega),wq (((P.length+(0+1):Nat):Int)-1) (by omega) (by omega),show((P.length+(0+1):Nat):Int)-1=(P.length:Nat)by omega,
    zkP (by simp),zkQ,y3N,zk1 (show y≤n by omega)]
   rfl
 | j+1,q1,q2,x,fuel+1,hj,hf,hq,hb=>by
  rcases List.eq_nil_or_concat q1 with rfl | ⟨Q,y,rfl⟩
  ·cases hj
  ·rw[List.concat_eq_append]at hj hq hb ⊢
   have hQ:Q.length=j:=by simpa using hj
   have hy:=hq y (by simp);obtain⟨x',q',e1,e2⟩:=yW8 n m p hp j Q (y::q2) y fuel hQ (by omega) (fun z hz=>hq z (by simp[hz])) (by simp at hb; omega);refine⟨x',q',by rw[← e1]; simp,?_⟩;rw[← e2];have ea:((p++(Q++ [y]))++x::q2)=(p++Q)++y::x::q2:=by simp
   have el:p.length+(Q++ [y]).length=(p++Q).length+1:=by simp; omega
   have el2:p.length+Q.length=(p++Q).length:=by simp
   have hb2:(p++Q).length≤1000:=by simp at hb ⊢; omega
   rw[ea,el,el2];generalize p++Q=A at hb2;rw[zF];simp only[ybE,ylu,ylI]
   have es:(A++y::x::q2).set (A.length+1) y=A++y::y::q2:=by
    have:=y3T (A++ [y]) x y q2;simp at this ⊢
   rw[zkw (show(0:Int)<((A.length+1:Nat):Int)by omega),wq (((A.length+1:Nat):Int)-1) (by omega) (by omega),show((A.length+1:Nat):Int)-1=(A.length:Nat)by omega,zkP (show A.length<(A++y::x::q2).length by simp),zkQ,y3N,zkw hy,
    zkP (show A.length+1<(A++y::x::q2).length by simp),Int.toNat_natCast,es]
   rfl
theorem yR3 (a0:dM) (a1:Int) (hk:zjw ynb (a0,a1,())):yqM a0 a1=(fun n=>some ((n,()),())) (ynD a0 a1):=by
 unfold yqM ynD spoil;simp only[yaP,yaS,ybU,yhJ];cases hm:yv a0
 ·rfl
 obtain⟨h1,h2,h3,h4,h5,h6⟩:=ycR hm;rw[ys7]at h3;have hlen:=yXX h3.2 (lo:=0) (n:=a0.1.length) h3.1 (by omega);rw[wq ((a0.1.length:Int)-1) (by omega) (by omega)]
 have hi:(leb 0 a1&&leb a1 ((a0.1.length:Int)-1))=inb a1 a0.1.length:=by
  rw[Bool.eq_iff_iff,Bool.and_eq_true,zj5,zj5,zj4]; omega
 rw[hi];cases hin:inb a1 a0.1.length
 ·rfl
 cases hh:a0.2.2.2.any (· ==a1)
 ·have hn:a1∉a0.2.2.2:=fun h=>by
   have:=List.any_eq_false.1 hh a1 h;simp at this
  have hsp:=y21 h3.2 hn;have hp: ∀x∈a0.2.2.2.filter (fun x=>ltb x a1),x<a1:=fun x hx=>zj8.1 (List.mem_filter.1 hx).2
  have hq: ∀x∈a0.2.2.2.filter (fun x=>ltb a1 x),a1<x:=fun x hx=>zj8.1 (List.mem_filter.1 hx).2
  unfold yvf;generalize a0.2.2.2.filter (fun x=>ltb x a1)=P at hsp hp;generalize a0.2.2.2.filter (fun x=>ltb a1 x)=Q at hsp hq;have hPQ:P.length+Q.length=a0.2.2.2.length:=by rw[hsp,List.length_append]
  obtain⟨x',q',e1,e2⟩:=yW8 a1 a0 P hp Q.length Q [] a1 18446744073709551616 rfl (by omega) hq (by omega);rw[List.append_nil]at e1;subst e1;simp only[cond_true,cond_false,Bool.not_true,Bool.not_false,Bool.and_self]
  rw[zkD.2 (show(a0.2.2.2.length+ [a1].length)*8≤140737488355328 by simp only[List.length_cons,List.length_nil]; omega),wr (show -9223372036854775808≤((a0.2.2.2++ [a1]).length:Int)-1 by omega) (by simp only[List.length_append,List.length_cons,List.length_nil]; omega),
   show((a0.2.2.2++ [a1]).length:Int)-1=((P.length+Q.length:Nat):Int)by simp only[List.length_append,List.length_cons,List.length_nil]; omega,hsp,cond_true]
  refine(congrArg (fun z=>zkr z _ _) (show ymo (yI0 a1 ((P.length+Q.length:Nat):Int) yc (a0.1,a0.2.1,a0.2.2.1,(P++Q)++ [a1]))=_ from e2)).trans ?_;simp only[zkL];show(bif inb (P.length:Int) (P++x'::Q).length then some (((a0.1,a0.2.1,a0.2.2.1,(P++x'::Q).set (P.length:Int).toNat a1),()),())else none)=_;rw[zkP (by simp),Int.toNat_natCast,y3T]; rfl
 ·rfl
def yBT:Con:=⟨ynb,yuv,fun x=>(fun n=>some ((n,()),())) (ynD x.1 x.2.1)⟩
theorem ySS:ConOk prog 112 yBT:=(yO4).mono (fun x r hk h=>(yR3 x.1 x.2.1 hk).trans h)
section
def y0L:Code:=(f216.body).getD .skip
def y1h:Env:=zku TT [(78,yxK),(82,yL),(200,yhC)] []
theorem yQ8:FrOk prog ⟨y1h,48,fun _=>none⟩ y0L:=zky yf yg ⟨yJu,yT,ynG,trivial⟩
abbrev yAp:List Par:= [.rd tA,.rd tI,.rd tL]
abbrev yAX:List OT:= [⟨false,tI,.fz⟩]
def yG6 (a0:dA) (a1:Int) (a2:List Int):Option (zaY yAX×zak yAp) :=let r1:=ycT a0;bif(!(!r1))then bif(!((a2.length:Int) !=(i64.wrap (a0.2.1.1-1))))then let r2:=yau a2;bif(!r2)then some ((1,()),()) else bif a0.2.2.2.2.2.2.2.2.2.2.1 then some ((6,()),()) else let r3:=yb a1 0 (i64.wrap (a0.2.1.2-1));bif(!r3)then some ((2,()),()) else bif a0.2.2.2.2.2.2.2.2.2.2.2 then some ((5,()),()) else bif(!(leb 60000 a0.2.2.2.2.2.1))then bif(leb 59990 a0.2.2.2.2.2.2.2.1)then some ((7,()),()) else some ((0,()),()) else some ((7,()),()) else some ((1,()),()) else some ((1,()),())
theorem yWk:ConOk prog 216 ⟨yAp,yAX,fun x=>yG6 x.1 x.2.1 x.2.2.1⟩:=zkG (yQ8) func216 ntmps216.symm fun x=>by kernel_rfl
def yO (a0:dA) (a1:Int) (a2:List Int):Int :=let r1:=ycT a0;bif(!(!r1))then bif(!((a2.length:Int) !=(i64.wrap (a0.2.1.1-1))))then let r2:=yau a2;bif(!r2)then 1 else bif a0.2.2.2.2.2.2.2.2.2.2.1 then 6 else let r3:=yb a1 0 (i64.wrap (a0.2.1.2-1));bif(!r3)then 2 else bif a0.2.2.2.2.2.2.2.2.2.2.2 then 5 else bif(!(leb 60000 a0.2.2.2.2.2.1))then bif(leb 59990 a0.2.2.2.2.2.2.2.1)then 7 else 0 else 7 else 1 else 1
def yGw:Con:=⟨yAp,yAX,fun x=>(fun n=>some ((n,()),())) (yO x.1 x.2.1 x.2.2.1)⟩
theorem yYH (a0:dA) (a1:Int) (a2:List Int):yG6 a0 a1 a2=(fun n=>some ((n,()),())) (yO a0 a1 a2):=zkT (p:=fun(n:Int)=>((n,()),())) (zkE (p:=fun(n:Int)=>((n,()),())) (zkE (p:=fun(n:Int)=>((n,()),())) (zkE (p:=fun(n:Int)=>((n,()),())) rfl (zkE (p:=fun(n:Int)=>((n,()),())) rfl (zkE (p:=fun(n:Int)=>((n,()),())) rfl (zkE (p:=fun(n:Int)=>((n,()),())) rfl (zkE (p:=fun(n:Int)=>((n,()),())) (zkE (p:=fun(n:Int)=>((n,()),())) rfl rfl) rfl))))) rfl) rfl)
theorem yZq:ConOk prog 216 yGw:=(yWk).mono (fun x r _ h=>(yYH x.1 x.2.1 x.2.2.1).trans h)
def yMO (l:List dW) (k:Nat):List dW:=l.take k++l.drop (k+1)
def yaW (a:dA) (s:Int):Int×dA :=bif ltb (yan a.2.2.2.2.2.2.2.2.1 s) 0 then(0,a)else bif yO a s (nth a.2.2.2.2.2.2.2.2.1 (yan a.2.2.2.2.2.2.2.2.1 s) (0,[])).2 !=0 then(yO a s (nth a.2.2.2.2.2.2.2.2.1 (yan a.2.2.2.2.2.2.2.2.1 s) (0,[])).2,a)else bif(yA a s (nth a.2.2.2.2.2.2.2.2.1 (yan a.2.2.2.2.2.2.2.2.1 s) (0,[])).2).1==0 then (0,yym (yA a s (nth a.2.2.2.2.2.2.2.2.1 (yan a.2.2.2.2.2.2.2.2.1 s) (0,[])).2).2 (yMO a.2.2.2.2.2.2.2.2.1 (yan a.2.2.2.2.2.2.2.2.1 s).toNat)) else yA a s (nth a.2.2.2.2.2.2.2.2.1 (yan a.2.2.2.2.2.2.2.2.1 s) (0,[])).2
theorem yyP {a:dA} {s:Int} {d:List Int} (h:yO a s d=0):yae a=true∧(d.length:Int)=a.2.1.1-1∧d.all isW=true∧ya a=false∧yN a.2.1 s=true∧a.2.2.2.2.2.2.2.2.2.2.2=false∧a.2.2.2.2.2.1<60000∧a.2.2.2.2.2.2.2.1<59990:=by
 unfold yO at h;simp only[ycT,yih,ybU]at h;cases ha:yae a
 ·rw[ha]at h; exact absurd (show(1:Int)=0 from h) (by decide)
 have hg:=yl.1 (yi7 ha);rw[ha,wq (a.2.1.1-1) (by omega) (by omega),wq (a.2.1.2-1) (by omega) (by omega)]at h;cases hl:((d.length:Int) !=a.2.1.1-1)
 ·cases hw:d.all isW
  ·rw[hl,hw]at h; exact absurd (show(1:Int)=0 from h) (by decide)
  cases hd:a.2.2.2.2.2.2.2.2.2.2.1
  ·cases hs:(leb 0 s&&leb s (a.2.1.2-1))
   ·rw[hl,hw,hd,hs]at h; exact absurd (show(2:Int)=0 from h) (by decide)
   cases hb:a.2.2.2.2.2.2.2.2.2.2.2
   ·cases h6:leb 60000 a.2.2.2.2.2.1
    ·cases h7:leb 59990 a.2.2.2.2.2.2.2.1
     ·have e6: ¬(60000≤a.2.2.2.2.2.1):=fun g=>by rw[zk0 g]at h6; cases h6
      have e7: ¬(59990≤a.2.2.2.2.2.2.2.1):=fun g=>by rw[zk0 g]at h7; cases h7
      exact⟨rfl,bne_eq_false_iff_eq.1 hl,rfl,hd,by unfold yN; rw[yi7 ha,hs]; rfl,rfl,by omega,by omega⟩
     ·rw[hl,hw,hd,hs,hb,h6,h7]at h; exact absurd (show(7:Int)=0 from h) (by decide)
    ·rw[hl,hw,hd,hs,hb,h6]at h; exact absurd (show(7:Int)=0 from h) (by decide)
   ·rw[hl,hw,hd,hs,hb]at h; exact absurd (show(5:Int)=0 from h) (by decide)
  ·rw[hl,hw,hd]at h; exact absurd (show(6:Int)=0 from h) (by decide)
 ·rw[hl]at h; exact absurd (show(1:Int)=0 from h) (by decide)
theorem yZK (a:dA):(yw a).2.2.2.2.2.2.2.2.1=a.2.2.2.2.2.2.2.2.1:=by
 unfold yw;cases leb 4 (i64.wrap (a.2.2.2.2.2.1-a.2.2.2.2.2.2.1))
 ·rfl
 ·exact yPt a
theorem y3t (a:dA):(yC a).2.2.2.2.2.2.2.2.1=a.2.2.2.2.2.2.2.2.1:=rfl
theorem y3w (a:dA) (s:Int) (d:List Int):(yA a s d).2.2.2.2.2.2.2.2.2.1=a.2.2.2.2.2.2.2.2.1:=by
 unfold yA;have h2:=(yUl (ya6 (yw a) ((yw a).2.2.2.2.2.1,s,d))).trans (yZK a);generalize yp (yw a) ((yw a).2.2.2.2.2.1,s,d)=R at h2 ⊢;have h3:=(yUl (yei (yC R) s d)).trans ((y3t R).trans h2);generalize yB (yC R) s d=Q at h3 ⊢;cases ya (yw a)
 ·cases ya R
  ·exact h3
  ·exact h2
 ·exact yZK a
theorem y4J {l:List dW} {k:Int} (h0:0≤k) (h1:k<(l.length:Int)):(([]:List dW)++((l.drop (0:Int).toNat).take (k-0).toNat))++((l.drop (k+1).toNat).take ((l.length:Int)-(k+1)).toNat)=yMO l k.toNat:=by
 unfold yMO;rw[List.nil_append,show(0:Int).toNat=0 from rfl,List.drop_zero,Int.sub_zero,show(k+1).toNat=k.toNat+1 by omega,List.take_of_length_le (l:=l.drop (k.toNat+1)) (by rw[List.length_drop]; omega)]
def ymq (_:Nat) (a:dA):dA ⊕ (Int×dA):=bif(yaW a (nth a.2.2.2.2.2.2.2.2.1 0 (0,[])).1).1 !=0 then .inr (yaW a (nth a.2.2.2.2.2.2.2.2.1 0 (0,[])).1)else .inl (yaW a (nth a.2.2.2.2.2.2.2.2.1 0 (0,[])).1).2
def yKM (a:dA):Int×dA:=goE ymq (fun b=>(0,b)) a.2.2.2.2.2.2.2.2.1.length 0 a
theorem y4b {e:dW} {l:List dW}:yan (e::l) e.1=0:=by
 unfold yan;rw[yCS,show(e.1==e.1)=true from beq_self_eq_true _]; rfl
theorem y4c {a:dA} (h:0<a.2.2.2.2.2.2.2.2.1.length) (h0:(yaW a (nth a.2.2.2.2.2.2.2.2.1 0 (0,[])).1).1=0):(yaW a (nth a.2.2.2.2.2.2.2.2.1 0 (0,[])).1).2.2.2.2.2.2.2.2.2.1=a.2.2.2.2.2.2.2.2.1.drop 1:=by
 unfold yaW at h0 ⊢
 have hk:yan a.2.2.2.2.2.2.2.2.1 (nth a.2.2.2.2.2.2.2.2.1 0 (0,[])).1=0:=by
  cases hl:a.2.2.2.2.2.2.2.2.1 with
  | nil=>rw[hl]at h; exact absurd h (Nat.lt_irrefl 0)
  | cons e l=>exact y4b
 rw[hk]at h0 ⊢;generalize (nth a.2.2.2.2.2.2.2.2.1 0 (0,[])).2=D at h0 ⊢;generalize (nth a.2.2.2.2.2.2.2.2.1 0 (0,[])).1=s at h0 ⊢;cases hc:(yO a s D !=0)
 ·rw[hc]at h0
  cases hr:((yA a s D).1==0)
  ·rw[hr]at h0
   exact absurd (show(yA a s D).1=0 from h0) (beq_eq_false_iff_ne.1 hr)
  ·rfl
 ·rw[hc]at h0
  exact absurd (show yO a s D=0 from h0) (bne_iff_ne.1 hc)
inductive Turned (a:dA):dA→Prop where
 | same:Turned a a
 | put (b x:Int):ye7 a.2.1 b=true→isW x=true→Turned a (yrg a b x).2
 | flush (s:Int):Turned a (yaW a s).2
 | all:Turned a (yKM a).2
 | fail (m:Int):a.2.2.2.1= -1→inb m a.2.2.1.length=true→Turned a (yia a m)
 | spare:inb a.2.2.2.1 a.2.2.1.length=true→(nth a.2.2.1 a.2.2.2.1 yc).2.2.1=true→Turned a (yD (yaa a))
 | step:inb a.2.2.2.1 a.2.2.1.length=true→(nth a.2.2.1 a.2.2.2.1 yc).2.2.1=false→a.2.2.2.2.1<a.2.1.2→Turned a (yfT a).2
 | check:Turned a (yq a)
 | spoil (m s:Int):a.2.2.2.1= -1→inb m a.2.2.1.length=true→0≤s→s<a.2.1.2→Turned a (ybx a m (spoil (nth a.2.2.1 m yc) (yy s)))
def y1W (g:dG) (e:dW):Prop:=(0≤e.1∧e.1≤g.2-1)∧(e.2.length:Int)=g.1-1∧e.2.all isW=true
theorem yyS {g:dG} {l:List dW}:yaY g l=true↔(∀e∈l,y1W g e)∧l.Pairwise (fun x y=>x.1<y.1):=by
 have bad: ∀i,yh9 g l i=false↔y1W g (nth l i (0,[]))∧(0<i→(nth l ((i-1:Nat):Int) (0,[])).1<(nth l i (0,[])).1):=by
  intro i;unfold yh9 y1W;simp only[Bool.or_eq_false_iff,Bool.not_eq_false',bne_eq_false_iff_eq,Bool.and_eq_true,Bool.and_eq_false_iff,decide_eq_false_iff_not,zj5];constructor
  ·rintro⟨h1,h2,h3,h4⟩
   refine⟨⟨h1,h2,h3⟩,fun h0=> ?_⟩;rcases h4 with h4 | h4
   ·exact absurd h0 h4
   ·have:=mt zk0 (by rw[h4]; simp: ¬leb (nth l i (0,[])).1 (nth l ((i-1:Nat):Int) (0,[])).1=true)
    omega
  ·rintro⟨⟨h1,h2,h3⟩,h4⟩
   refine⟨h1,h2,h3,?_⟩;by_cases h0:0<i
   ·exact .inr (zkZ (by have:=h4 h0; omega))
   ·exact .inl h0
 unfold yaY;simp only[Bool.not_eq_true',List.any_eq_false,List.mem_range,Bool.not_eq_true,bad];constructor
 ·intro h
  refine⟨fun e he=> ?_,?_⟩
  ·obtain⟨i,hi,rfl⟩:=List.getElem_of_mem he
   have:=(h i hi).1;rwa[zkQ,zkH hi]at this
  ·rw[List.pairwise_iff_getElem]
   have step: ∀(d i:Nat) (hi:i<l.length) (hj:i+d+1<l.length),l[i].1<l[i+d+1].1:=by
    intro d
    induction d with
    | zero =>
     intro i hi hj;have:=(h (i+1) hj).2 (by omega);rwa[Nat.add_sub_cancel,zkQ,zkQ,zkH hi,zkH hj]at this
    | succ d ih =>
     intro i hi hj;have h1:=ih i hi (by omega);have:=(h (i+d+1+1) hj).2 (by omega);rw[Nat.add_sub_cancel,zkQ,zkQ,zkH (show i+d+1<l.length by omega),zkH (show i+d+1+1<l.length from hj)]at this;exact Int.lt_trans h1 this
   intro i j hi hj hij;have:=step (j-i-1) i hi (by omega);have e:i+(j-i-1)+1=j:=by omega
   simp only[e]at this;exact this
 ·rintro⟨h1,h2⟩ i hi
  rw[List.pairwise_iff_getElem]at h2;refine⟨by rw[zkQ,zkH hi]; exact h1 _ (List.getElem_mem hi),fun h0=> ?_⟩;rw[zkQ,zkQ,zkH hi,zkH (show i-1<l.length by omega)];exact h2 (i-1) i (by omega) hi (by omega)
theorem yZO {g:dG} {l:List dW} (k:Nat) (h:yaY g l=true):yaY g (yMO l k)=true:=by
 rw[yyS]at h ⊢
 have hs:(yMO l k).Sublist l:=by
  unfold yMO;have:(l.take k++l.drop (k+1)).Sublist (l.take k++l.drop k):=List.Sublist.append_left (by rw[← List.drop_drop]; exact List.drop_sublist _ _) _;rwa[List.take_append_drop]at this
 exact⟨fun e he=>h.1 e (hs.subset he),h.2.sublist hs⟩
theorem y2V (e:dW): ∀(l acc:List dW),l.foldl (ycU e) (true,acc)=(true,acc++l.filter (fun x=>x.1 !=e.1))
 | [],acc=>by simp
 | x::t,acc=>by
  rw[List.foldl_cons];have:ycU e (true,acc) x=(true,acc++(bif x.1 !=e.1 then[x]else[])):=rfl;rw[this,y2V e t,List.filter_cons];cases x.1 !=e.1<;>simp
theorem y43 {e:dW} {l:List dW} (h:l.Pairwise (fun x y=>x.1<y.1)):yMq l e=l.filter (fun x=>ltb x.1 e.1)++e::l.filter (fun x=>ltb e.1 x.1):=by
 have: ∀(l acc:List dW),l.Pairwise (fun x y=>x.1<y.1)→(bif(l.foldl (ycU e) (false,acc)).1 then(l.foldl (ycU e) (false,acc)).2 else(l.foldl (ycU e) (false,acc)).2++ [e])=acc++(l.filter (fun x=>ltb x.1 e.1)++e::l.filter (fun x=>ltb e.1 x.1)):=by
  intro l
  induction l with
  | nil=>intro acc _; simp
  | cons x t ih =>
   intro acc h;obtain⟨hx,ht⟩:=List.pairwise_cons.1 h;rw[List.foldl_cons];by_cases hle:e.1≤x.1
   ·have h1:ycU e (false,acc) x=(true,(acc++ [e])++(bif x.1 !=e.1 then[x]else[])):=by
     unfold ycU; rw[zk0 hle]; rfl
    have h2:t.filter (fun x=>x.1 !=e.1)=t:=List.filter_eq_self.2 (fun y hy=>bne_iff_ne.2 (by have:=hx y hy; omega));have h3:t.filter (fun x=>ltb x.1 e.1)= []:=List.filter_eq_nil_iff.2 (fun y hy=>by rw[zk1 (by have:=hx y hy; omega)]; simp);have h4:t.filter (fun x=>ltb e.1 x.1)=t:=List.filter_eq_self.2 (fun y hy=>zkw (by have:=hx y hy; omega));rw[h1,y2V,h2,List.filter_cons,List.filter_cons,h3,h4,zk1 (show e.1≤x.1 by omega)];by_cases he:x.1=e.1
    ·rw[show(x.1 !=e.1)=false from bne_eq_false_iff_eq.2 he,zk1 (show x.1≤e.1 by omega)]; simp
    ·rw[show(x.1 !=e.1)=true from bne_iff_ne.2 he,zkw (show e.1<x.1 by omega)]; simp
   ·have h1:ycU e (false,acc) x=(false,acc++ [x]):=by
     unfold ycU; rw[zkZ (show x.1<e.1 by omega),show(x.1 !=e.1)=true from bne_iff_ne.2 (by omega)]; rfl
    rw[h1,ih _ ht,List.filter_cons,List.filter_cons,zkw (show x.1<e.1 by omega),zk1 (show x.1≤e.1 by omega)];simp
 have:=this l [] h;rw[List.nil_append]at this;exact this
theorem yZP {g:dG} {l:List dW} {e:dW} (h:yaY g l=true) (he:y1W g e):yaY g (yMq l e)=true:=by
 rw[yyS]at h ⊢;rw[y43 h.2];refine⟨fun x hx=> ?_,?_⟩
 ·rcases List.mem_append.1 hx with h1 | h1
  ·exact h.1 x (List.mem_filter.1 h1).1
  ·rcases List.mem_cons.1 h1 with rfl | h1
   ·exact he
   ·exact h.1 x (List.mem_filter.1 h1).1
 ·rw[List.pairwise_append,List.pairwise_cons]
  refine⟨h.2.filter _,⟨fun y hy=>zj8.1 (List.mem_filter.1 hy).2,h.2.filter _⟩,fun x hx y hy=> ?_⟩;have h1:=zj8.1 (List.mem_filter.1 hx).2;rcases List.mem_cons.1 hy with rfl | hy
  ·exact h1
  ·exact Int.lt_trans h1 (zj8.1 (List.mem_filter.1 hy).2)
theorem yyT {g:dG} {l:List dW} (h:yaY g l=true) (hg:yd g=true):l.length≤8:=by
 rw[yyS]at h;have hg:=yl.1 hg
 have:=yXX (l:=l.map (fun e=>e.1)) (lo:=0) (n:=g.2) (by rw[List.pairwise_map]; exact h.2) (fun x hx=>by
  obtain⟨e,he,rfl⟩:=List.mem_map.1 hx
  have:=(h.1 e he).1; omega) (by omega)
 rw[List.length_map]at this;omega
theorem yxT {a:dA} (r:dN) (h:yI a):yI (yp a r) :=yk0 (ylo (P:=yI) (one:=ybd r) (ylB r) (fun _ _ h hi=>yxS h (zkP hi)) _ a (Nat.le_refl _) h)
theorem y2y {a:dA} (r:dN) (h:ycN a):ycN (yp a r) :=yza (ylo (P:=ycN) (one:=ybd r) (ylB r) (fun _ _ h _=>yIR h _ _ _) _ a (Nat.le_refl _) h)
theorem yGF {a:dA} (s:Int) (d:List Int) (h:yI a):yI (yB a s d) :=
 ylo (P:=yI) (one:=ybe (yk a.2.1 s) a.2.1.1 s d) (yq6 _ _ _ _) (fun b i h hi=>by
  unfold ybe;cases ycQ b i s
  ·exact h
  ·exact yxS h (zkP hi)) _ a (Nat.le_refl _) h
theorem yZU {a:dA} (s:Int) (d:List Int) (h:ycN a):ycN (yB a s d) :=
 ylo (P:=ycN) (one:=ybe (yk a.2.1 s) a.2.1.1 s d) (yq6 _ _ _ _) (fun b i h hi=>by
  unfold ybe;cases ycQ b i s
  ·exact h
  ·exact yIR h _ _ _) _ a (Nat.le_refl _) h
theorem y6J {k:Int} {a:dA} (r:dN) (h:Wk k a):Wk k (yp a r):=yC4 (ya6 _ _) (yxT r h.2.1) (y2y r h.2.2.1) h
theorem y6j {k:Int} {a:dA} (s:Int) (d:List Int) (h:Wk k a):Wk k (yB a s d):=yC4 (yei _ _ _) (yGF s d h.2.1) (yZU s d h.2.2.1) h
theorem y5S {k:Int} {a:dA} (h:Wk k a) (h1:a.2.2.2.2.2.1<60000) (h2:a.2.2.2.2.2.1-a.2.2.2.2.2.2.1≤3):Wk k (yC a):=by
 obtain⟨⟨c1,c2,c3,c4,c5,c6,c7,c8,c9,c10,c11⟩,g2,g3,g4,g5⟩:=h;have e:i64.wrap (a.2.2.2.2.2.1+1)=a.2.2.2.2.2.1+1:=wr (by omega) (by omega);refine⟨⟨c1,c2,c3,c4,c5,c6,c7,⟨?_,?_⟩,?_,c10,c11⟩,g2,g3,g4,g5⟩
 ·show a.2.2.2.2.2.2.1≤i64.wrap (a.2.2.2.2.2.1+1); omega
 ·show i64.wrap (a.2.2.2.2.2.1+1)≤60000; omega
 ·show i64.wrap (a.2.2.2.2.2.1+1)≤a.2.2.2.2.2.2.1+4; omega
theorem yfZ {a b:dA} (h:yz a=yz b):a.2.2.2.2.2.1=b.2.2.2.2.2.1:=congrArg (fun x=>x.2.2.2.2.1) h
theorem yZM {a b:dA} (h:yz a=yz b):a.2.2.2.2.2.2.1=b.2.2.2.2.2.2.1:=congrArg (fun x=>x.2.2.2.2.2.1) h
theorem yUj {a:dA} (h:ycN a):yz (yq a)=yz (yaw (yV a)):=by
 rw[yIF h,yjd];have:=yaL a;unfold yz at this ⊢;simp only[Prod.mk.injEq]at this;obtain⟨h1,h2,h3,h4,h5,h6,h7,h8,h9⟩:=this;unfold yaw yV;simp only[h1,h2,h3,h4,h5,h7,h8,h9]
theorem y6H {k:Int} {a:dA} (h:Wk k a) (hk:k+1≤60000):Wk (k+1) (yw a)∧(yw a).2.2.2.2.2.1=a.2.2.2.2.2.1∧(yw a).2.2.2.2.2.1-(yw a).2.2.2.2.2.2.1≤3:=by
 have c:=h.1;unfold yU at c;unfold yw;rw[wr (by omega) (by omega)];cases h4:leb 4 (a.2.2.2.2.2.1-a.2.2.2.2.2.2.1)
 ·refine⟨ydv h (by omega),rfl,?_⟩
  have: ¬(4≤a.2.2.2.2.2.1-a.2.2.2.2.2.2.1):=fun g=>by rw[zk0 g]at h4; cases h4
  show a.2.2.2.2.2.1-a.2.2.2.2.2.2.1≤3; omega
 ·have e1:(yq a).2.2.2.2.2.1=a.2.2.2.2.2.1:=(yfZ (yUj h.2.2.1)).trans rfl
  have e2:(yq a).2.2.2.2.2.2.1=a.2.2.2.2.2.1:=(yZM (yUj h.2.2.1)).trans rfl;rw[cond_true];exact⟨y26 h hk,e1,by omega⟩
theorem y5V {k:Int} {a:dA} (s:Int) (d:List Int) (h:Wk k a) (hs:a.2.2.2.2.2.1<60000) (hk:k+1≤60000):Wk (k+1) (yA a s d).2∧(yA a s d).1=0:=by
 obtain⟨h1,h2,h3⟩:=y6H h hk;have h4:=y6J ((yw a).2.2.2.2.2.1,s,d) h1;have e1:=yfZ (ya6 (yw a) ((yw a).2.2.2.2.2.1,s,d));have e2:=yZM (ya6 (yw a) ((yw a).2.2.2.2.2.1,s,d));unfold yA;generalize yp (yw a) ((yw a).2.2.2.2.2.1,s,d)=R at h4 e1 e2 ⊢;have h5:=y6j s d (y5S h4 (by omega) (by omega));generalize yB (yC R) s d=Q at h5 ⊢;rw[h1.2.2.1.1,h4.2.2.1.1,h5.2.2.1.1];exact⟨h5,rfl⟩
theorem yPI {k:Int} {a:dA} {l:List dW} (h:Wk k a) (hd:yaY a.2.1 l=true):Wk k (yym a l):=by
 obtain⟨⟨c1,c2,c3,c4,c5,c6,c7,c8,c9,c10,c11⟩,g2,g3,g4,g5⟩:=h;exact⟨⟨c1,c2,hd,c4,c5,c6,c7,c8,c9,c10,c11⟩,g2,g3,g4,g5⟩
theorem y0f (a:dA) (s:Int) (d:List Int):(yA a s d).2.2.1=a.2.1:=by
 unfold yA;have h2:=(yag (ya6 (yw a) ((yw a).2.2.2.2.2.1,s,d))).trans (yXZ a);generalize yp (yw a) ((yw a).2.2.2.2.2.1,s,d)=R at h2 ⊢;have h3:=(yag (yei (yC R) s d)).trans (show(yC R).2.1=a.2.1 from h2);generalize yB (yC R) s d=Q at h3 ⊢;cases ya (yw a)
 ·cases ya R
  ·exact h3
  ·exact h2
 ·exact yXZ a
theorem y27 {k:Int} {a:dA} (s:Int) (h:Wk k a) (hk:k+1≤60000):Wk (k+1) (yaW a s).2:=by
 unfold yaW;cases ltb (yan a.2.2.2.2.2.2.2.2.1 s) 0
 ·generalize hD:(nth a.2.2.2.2.2.2.2.2.1 (yan a.2.2.2.2.2.2.2.2.1 s) (0,[])).2=D
  cases hc:(yO a s D !=0)
  ·have hz:=yyP (bne_eq_false_iff_eq.1 hc)
   obtain⟨h1,h2⟩:=y5V s D h hz.2.2.2.2.2.2.1 hk;rw[show((yA a s D).1==0)=true from beq_iff_eq.2 h2];exact yPI h1 (by rw[y0f]; exact yZO _ h.1.2.2.1)
  ·exact ydv h (by omega)
 ·exact ydv h (by omega)
theorem y28 {k:Int}: ∀(n i:Nat) (j:Int) (a:dA),Wk j a→j+n≤k→k≤60000→Wk k (goE ymq (fun b=>((0:Int),b)) n i a).2
 | 0,_,j,a,h,h1,_=>ydv h (by omega)
 | n+1,i,j,a,h,h1,h2=>by
  have h3:=y27 (nth a.2.2.2.2.2.2.2.2.1 0 (0,[])).1 h (by omega);unfold goE ymq;cases((yaW a (nth a.2.2.2.2.2.2.2.2.1 0 (0,[])).1).1 !=0)
  ·exact y28 n (i+1) (j+1) _ h3 (by omega) h2
  ·exact ydv h3 (by omega)
theorem y6F {k:Int} {a:dA} (h:Wk k a) (hk:k+8≤60000):Wk (k+8) (yKM a).2:=by
 have:=yyT h.1.2.2.1 h.1.1;exact y28 _ 0 k a h (by omega) hk
theorem y6K {k:Int} {a:dA} {b n:Int} (h:Wk k a) (hb:ye7 a.2.1 b=true) (hn:isW n=true):Wk k (yrg a b n).2:=by
 unfold yrg;cases hs:(ybR a (yY a.2.1 b)).2
 ·exact h
 ·have hstr:=yHv hb
  have hl:=yBg (y6G h) hstr hs;refine yPI h (yZP h.1.2.2.1 ⟨(yW.1 hstr).2,by rw[List.length_set]; exact hl,yZB ?_ hn⟩);unfold ybR;cases hk:leb 0 (yan a.2.2.2.2.2.2.2.2.1 (yY a.2.1 b))
  ·rw[h.2.2.2.1]; exact yZN _ _
  ·have:=(yn8 (d:=((0:Int),([]:List Int))) hk).1
   exact yxU (P:=fun e:dW=>e.2.all isW=true) this (fun e he=>((yyS.1 h.1.2.2.1).1 e he).2.2)
def yJk (a:dA) (s:Int) (d:List Int):dA×Int:=bif yO a s d !=0 then(a,yO a s d)else((yA a s d).2,(yA a s d).1)
theorem y4z (a:dA) (s:Int) (d:List Int):(yA a s d).1=bif ya (yA a s d).2 then 6 else 0:=by
 unfold yA;generalize yw a=C;generalize yp C (C.2.2.2.2.2.1,s,d)=R;generalize yB (yC R) s d=Q;rcases Bool.eq_false_or_eq_true (ya C)with h | h
 ·rw[h,cond_true]
  exact(congrArg (fun x=>bif x then(6:Int)else 0) h).symm
 ·rw[h,cond_false]
  rcases Bool.eq_false_or_eq_true (ya R)with h2 | h2
  ·rw[h2,cond_true]
   exact(congrArg (fun x=>bif x then(6:Int)else 0) h2).symm
  ·rw[h2,cond_false]
theorem y0d {k:Int} {a b:dA} (h:Wk k a) (ht:Turned a b) (hk:k+8≤60000):Wk (k+8) b:=by
 cases ht with
 | same=>exact ydv h (by omega)
 | put b x hb hx=>exact ydv (y6K h hb hx) (by omega)
 | flush s=>exact ydv (y27 s h (by omega)) (by omega)
 | all=>exact y6F h hk
 | fail m hl hm=>exact ydv (y6k h hl hm (by omega)) (by omega)
 | spare hl _=>exact ydv (y5T h hl (by omega)) (by omega)
 | step hl _ hb=>exact ydv (y6l h hl hb) (by omega)
 | check=>exact ydv (y26 h (by omega)) (by omega)
 | spoil m s _ hm _ _=>exact ydv (y5U h hm) (by omega)
structure Ix (k:Int) (V:Int→Int→Int) (a:dA):Prop where
 xc:yU a
 xk:yI a
 xu:ya a=false
 xb:a.2.2.2.2.2.2.2.2.2.2.2=false
 xg:a.2.2.2.2.2.2.2.1≤k
 xs:a.2.2.2.2.2.1≤k
 xe:EvV a.2.1 V
 xv:yIC V a
 xn: ∀i,0≤i→i<a.2.1.1→((yi a i).2.1.length:Int)≤1+(bif i==a.2.2.2.1 then a.2.2.2.2.1 else 0)
theorem yU1 {k:Int} {V:Int→Int→Int} {a:dA} (h:Ix k V a):yae a=true:=yC1.2 ⟨h.xc,h.xk⟩
theorem yYa {k j:Int} {V:Int→Int→Int} {a:dA} (h:Ix k V a) (hj:k≤j):Ix j V a:=⟨h.xc,h.xk,h.xu,h.xb,Int.le_trans h.xg hj,Int.le_trans h.xs hj,h.xe,h.xv,h.xn⟩
def yDC (S:Int) (m x:dM):Prop:=(x.2.2.1=false→m.2.2.1=false∧ ∀k,6≤k→k<6+S→ya3 x k=false→ya3 m k=false∧ycn x k=ycn m k)
theorem yGG (S:Int) (m:dM):yDC S m m:=fun h=>⟨h,fun _ _ _ hb=>⟨hb,rfl⟩⟩
theorem yIS {S:Int} {m x y:dM} (h:yDC S m x) (g:yDC S x y):yDC S m y:=fun hy=>by
 obtain⟨h1,h2⟩:=g hy;obtain⟨h3,h4⟩:=h h1;exact⟨h3,fun k k0 k1 hb=>⟨(h4 k k0 k1 (h2 k k0 k1 hb).1).1,(h2 k k0 k1 hb).2.trans (h4 k k0 k1 (h2 k k0 k1 hb).1).2⟩⟩
theorem yCV {S:Int} {m:dM} (h:yv m=true):yDC S m (yE m):=fun hf=>by
 rw[(ytd m).2]at hf;exact⟨hf,fun k k0 k1 hb=>⟨by rw[yKT]at hb; exact hb,y4O h hf (by omega)⟩⟩
theorem yRg {S n:Int} {s:List Int} {m:dM} (hn:n<6):yDC S m (yeo n s m):=fun hf=>by
 unfold yeo at hf ⊢;cases hm:m.2.2.1
 ·refine⟨rfl,fun k k0 k1 hb=> ?_⟩
  rw[cond_false]at hb ⊢;cases hc:ybp m n s
  ·unfold yZ at hb ⊢
   rw[hc]at hb ⊢; exact⟨hb,rfl⟩
  ·rw[yyE hc,show(k !=n)=true from bne_iff_ne.2 (by omega),Bool.and_true]at hb
   rw[yn6 hc,show(n==k)=false from beq_eq_false_iff_ne.2 (by omega)];exact⟨hb,rfl⟩
 ·rw[hm]at hf
  rw[cond_true,hm]at hf; cases hf
theorem yGE (n:Int) (s:List Int) (m:dM):(yeo n s m).2.2.1=m.2.2.1:=by
 unfold yeo;cases hm:m.2.2.1
 ·show(yZ m n s).1.2.2.1=false
  rw[(yzV m n s).2]; exact hm
 ·exact hm
theorem yMH {V:Int→Int→Int} {a b:dA} (hg:b.2.1=a.2.1) (hl: ∀i s,0≤i→i<a.2.1.1→0≤s→yak b.2.2.2.1 b.2.2.2.2.1 i s (yi b i)=true→(i !=a.2.2.2.1||ltb s a.2.2.2.2.1)=true∧yDC a.2.1.2 (yi a i) (yi b i)) (h:yIC V a):yIC V b:=fun i s i0 i1 s0 s1 hh=>by
 rw[hg]at i1 s1;unfold yaF at hh;rw[Bool.and_eq_true,Bool.not_eq_true']at hh;obtain⟨h1,h2⟩:=hl i s i0 i1 s0 hh.1
 have hf:(yi b i).2.2.1=false:=by
  have:=hh.1;simp only[yak,Bool.and_eq_true,Bool.not_eq_true']at this; exact this.1
 obtain⟨h3,h4⟩:=h2 hf;obtain⟨h5,h6⟩:=h4 (s+6) (by omega) (by omega) hh.2;rw[h6];exact h i s i0 i1 s0 s1 (by unfold yaF yak; rw[h3,h1,h5]; rfl)
theorem y5b {V:Int→Int→Int} {a b:dA} (hc:yz b=yz a) (hl: ∀i,0≤i→i<a.2.1.1→yDC a.2.1.2 (yi a i) (yi b i)) (h:yIC V a):yIC V b :=
 yMH (yag hc) (fun i s i0 i1 s0 hh=>⟨by
  rw[yn5 hc,yja hc]at hh
  simp only[yak,Bool.and_eq_true]at hh; exact hh.2,hl i i0 i1⟩) h
theorem yMT {k:Int} {V:Int→Int→Int} {a b:dA} (hc:yz b=yz a) (hk:yI b) (hu:ya b=false) (hl: ∀i,0≤i→i<a.2.1.1→yDC a.2.1.2 (yi a i) (yi b i)∧(yi b i).2.1.length≤(yi a i).2.1.length) (h:Ix k V a):Ix k V b:=by
 refine⟨yC2 hc h.xc,hk,hu,(ysg hc).trans h.xb,by rw[ysh hc]; exact h.xg,by rw[yfZ hc]; exact h.xs,by rw[yag hc]; exact h.xe,y5b hc (fun i i0 i1=>(hl i i0 i1).1) h.xv,fun i i0 i1=> ?_⟩;rw[yag hc]at i1;rw[yn5 hc,yja hc];have:=h.xn i i0 i1;have:=(hl i i0 i1).2;omega
theorem yDW {g:Int→dM→dM} {a r:dA} (h:Adv g a r a.2.2.1.length) (hu:ya r=false) {i:Int} (i0:0≤i) (i1:i<(a.2.2.1.length:Int)):yi r i=g i (yi a i):=by
 obtain⟨_,_,k,h1,h2,h3⟩:=h;rw[h2 i i0,h3 hu,zkw i1]; rfl
theorem yJd {a:dA} (hu:ya (ye a)=false) {i:Int} (i0:0≤i) (i1:i<(a.2.2.1.length:Int)):yi (ye a) i=yE (yi a i):=by
 cases hd:ya a
 ·exact yDW (yTf hd) hu i0 i1
 ·rw[ytm hd]at hu; rw[hd]at hu; cases hu
theorem y3U {a:dA} (hu:ya (ye a)=false):ya a=false:=by
 cases hd:ya a
 ·rfl
 ·rw[ytm hd]at hu; rw[hd]at hu; cases hu
theorem yPx {m:dM} (h:yv m=true):(yE m).2.1.length≤m.2.1.length:=by
 unfold yE;rw[h];cases m.2.2.1
 ·exact Nat.zero_le _
 ·exact Nat.le_refl _
theorem y3F {k:Int} {V:Int→Int→Int} {a:dA} (h:Ix k V a) (hu:ya (ye a)=false):Ix k V (ye a) :=
 yMT (yaL a) (yk0 h.xk) hu (fun i i0 i1=>by
  obtain⟨d1,_,_⟩:=yeS h.xk i0 i1;rw[yJd hu i0 (by have:=h.xk.1.2; omega)]
  exact⟨yCV d1,yPx d1⟩) h
theorem y6f {a:dA} (hu:ya (yD a)=false):ya ((List.range a.2.2.1.length).foldl yad (yaw a))=false∧ya a=false:=by
 have h1:=y3U hu;refine⟨h1,?_⟩;cases hd:ya a
 ·rfl
 ·rw[ykY (one:=yad) (fun _ _ h=>yos h _ _ _) _ (yaw a) hd]at h1
  exact(hd.symm.trans h1)
theorem y2M {a:dA} (hu:ya (yD a)=false) {i:Int} (i0:0≤i) (i1:i<(a.2.2.1.length:Int)):yi (yD a) i=yE (y1X (yaw a) i (yi a i)):=by
 obtain⟨h1,h2⟩:=y6f hu;have hl:((List.range a.2.2.1.length).foldl yad (yaw a)).2.2.1.length=a.2.2.1.length:=yjA (one:=yad) (fun _ _=>ypJ _ _ _ _) _ (yaw a);unfold yD at hu ⊢;rw[yJd hu i0 (by omega)];exact congrArg yE (yDW (a:=yaw a) (y2L (a:=yaw a) h2) h1 i0 i1)
theorem ypt {n:Int} {s:List Int} {m:dM} (h:yv m=true):yv (yeo n s m)=true:=by
 unfold yeo;cases m.2.2.1
 ·exact y3a _ _ h
 ·exact h
theorem yu5 {n:Int} {s:List Int} {m:dM} (h:yv m=true):(yE (yeo n s m)).2.1.length≤m.2.1.length:=by
 cases hf:m.2.2.1
 ·rw[(yCO (ypt h) ((yGE n s m).trans hf)).1]; exact Nat.zero_le _
 ·have e:yeo n s m=m:=by unfold yeo; rw[hf]; rfl
  rw[e]; exact yPx h
theorem ykU {q:Int} (h:0≤q):2≤yh q∧yh q<6∧yh q=2+q % 4:=by
 unfold yh;rw[zk1 h,cond_false,Int.tmod_eq_emod_of_nonneg h];have:=Int.emod_nonneg q (show(4:Int)≠0 by omega);have:=Int.emod_lt_of_pos q (show(0:Int)<4 by omega);rw[wr (by omega) (by omega)]; omega
theorem yJf {g:Int} (h:0≤g):0≤g.tmod 2∧g.tmod 2<2:=by
 rw[Int.tmod_eq_emod_of_nonneg h]; omega
theorem yX0 {a b:dA} (h:yz a=yz b):a.2.2.2.2.2.2.1=b.2.2.2.2.2.2.1:=congrArg (fun x=>x.2.2.2.2.2.1) h
theorem y3E {k:Int} {V:Int→Int→Int} {a:dA} (h:Ix k V a) (hk:k+1≤60000) (hu:ya (yD a)=false):Ix (k+1) V (yD a):=by
 have c:=h.xc;unfold yU at c;have hgk:=h.xg;have hsk:=h.xs;have e:i64.wrap (a.2.2.2.2.2.2.2.1+1)=a.2.2.2.2.2.2.2.1+1:=wr (by omega) (by omega)
 have hG:Ix (k+1) V (yaw a):=by
  obtain⟨⟨c1,c2,c3,c4,c5,c6,c7,c8,c9,c10,c11⟩,g2,g3,g4,g5,g6,g7,g8,g9⟩:=h;refine⟨⟨c1,c2,c3,c4,c5,c6,c7,c8,c9,?_,?_⟩,g2,g3,g4,?_,?_,g7,g8,g9⟩
  ·show 0≤i64.wrap (a.2.2.2.2.2.2.2.1+1); omega
  ·show i64.wrap (a.2.2.2.2.2.2.2.1+1)≤_; omega
  ·show i64.wrap (a.2.2.2.2.2.2.2.1+1)≤_; omega
  ·show a.2.2.2.2.2.1≤k+1; omega
 refine yMT (a:=yaw a) (yjd a) (yzr h.xk) hu (fun i i0 i1=> ?_) hG;have i1':i<a.2.1.1:=i1;obtain⟨d1,_,_⟩:=yeS h.xk i0 i1';rw[y2M hu i0 (by have:=h.xk.1.2; omega)]
 have hn:(yaw a).2.2.2.2.2.2.2.1.tmod 2<6:=by
  show(i64.wrap (a.2.2.2.2.2.2.2.1+1)).tmod 2<6;have:=yJf (g:=i64.wrap (a.2.2.2.2.2.2.2.1+1)) (by omega);omega
 exact⟨yIS (yRg hn) (yCV (ypt d1)),yu5 d1⟩
theorem yZY {k:Int} {V:Int→Int→Int} {a:dA} (h:Ix k V a):Ix k V (yV a):=by
 obtain⟨⟨c1,c2,c3,c4,c5,c6,c7,c8,c9,c10,c11⟩,g2,g3,g4,g5,g6,g7,g8,g9⟩:=h;refine⟨⟨c1,c2,c3,c4,c5,c6,⟨?_,?_⟩,⟨Int.le_refl _,c8.2⟩,?_,c10,c11⟩,g2,g3,g4,g5,g6,g7,g8,g9⟩
 ·show 0≤a.2.2.2.2.2.1; omega
 ·show a.2.2.2.2.2.1≤60000; omega
 ·show a.2.2.2.2.2.1≤a.2.2.2.2.2.1+4; omega
theorem yIG {a:dA} (hu:ya (yq a)=false):ya (ye a)=false∧yq a=yD (yV (ye a)):=by
 unfold yq at hu ⊢;cases hd:ya (ye a)
 ·exact⟨rfl,rfl⟩
 ·rw[hd]at hu; exact absurd (hd.symm.trans hu) (by simp)
theorem yRf {k:Int} {V:Int→Int→Int} {a:dA} (h:Ix k V a) (hk:k+1≤60000) (hu:ya (yq a)=false):Ix (k+1) V (yq a):=by
 obtain⟨h1,h2⟩:=yIG hu;rw[h2]at hu ⊢;exact y3E (yZY (y3F h h1)) hk hu
theorem y6A {a:dA} {r:dN} (hu:ya (yp a r)=false):ya ((List.range a.2.2.1.length).foldl (ybd r) a)=false∧ya a=false:=by
 have h1:=y3U hu;refine⟨h1,?_⟩;cases hd:ya a
 ·rfl
 ·rw[ykY (one:=ybd r) (fun _ _ h=>yos h _ _ _) _ a hd]at h1
  exact(hd.symm.trans h1)
theorem yMW {a:dA} {r:dN} (hu:ya (yp a r)=false) {i:Int} (i0:0≤i) (i1:i<(a.2.2.1.length:Int)):yi (yp a r) i=yE (yeo (yh r.1) (yac r) (yi a i)):=by
 obtain⟨h1,h2⟩:=y6A hu;have hl:((List.range a.2.2.1.length).foldl (ybd r) a).2.2.1.length=a.2.2.1.length:=yjA (ylB r) _ a;unfold yp at hu ⊢;rw[yJd hu i0 (by omega)];exact congrArg yE (yDW (y3Q r h2) h1 i0 i1)
theorem y6u {k:Int} {V:Int→Int→Int} {a:dA} {r:dN} (h:Ix k V a) (hr:0≤r.1) (hu:ya (yp a r)=false):Ix k V (yp a r)∧ ∀i,0≤i→i<a.2.1.1→(yi (yp a r) i).2.2.1=false→(yi (yp a r) i).2.1= []:=by
 refine⟨yMT (ya6 a r) (yxT r h.xk) hu (fun i i0 i1=> ?_) h,fun i i0 i1 hf=> ?_⟩
 ·obtain⟨d1,_,_⟩:=yeS h.xk i0 i1
  rw[yMW hu i0 (by have:=h.xk.1.2; omega)];exact⟨yIS (yRg (ykU hr).2.1) (yCV (ypt d1)),yu5 d1⟩
 ·obtain⟨d1,_,_⟩:=yeS h.xk i0 i1
  rw[yMW hu i0 (by have:=h.xk.1.2; omega)]at hf ⊢;rw[(ytd _).2]at hf;exact(yCO (ypt d1) hf).1
theorem y5w {k:Int} {V:Int→Int→Int} {a:dA} (h:Ix k V a) (h1:a.2.2.2.2.2.1<60000) (h2:a.2.2.2.2.2.1-a.2.2.2.2.2.2.1≤3):Ix (k+1) V (yC a):=by
 obtain⟨⟨c1,c2,c3,c4,c5,c6,c7,c8,c9,c10,c11⟩,g2,g3,g4,g5,g6,g7,g8,g9⟩:=h;have e:i64.wrap (a.2.2.2.2.2.1+1)=a.2.2.2.2.2.1+1:=wr (by omega) (by omega);refine⟨⟨c1,c2,c3,c4,c5,c6,c7,⟨?_,?_⟩,?_,c10,c11⟩,g2,g3,g4,?_,?_,g7,g8,g9⟩
 ·show a.2.2.2.2.2.2.1≤i64.wrap (a.2.2.2.2.2.1+1); omega
 ·show i64.wrap (a.2.2.2.2.2.1+1)≤60000; omega
 ·show i64.wrap (a.2.2.2.2.2.1+1)≤a.2.2.2.2.2.2.1+4; omega
 ·show a.2.2.2.2.2.2.2.1≤k+1; omega
 ·show i64.wrap (a.2.2.2.2.2.1+1)≤k+1; omega
def ycV (V:Int→Int→Int) (g:dG) (s:Int) (d:List Int):Int→Int→Int:=fun t i=>bif t==s then yco (yk g s) g.1 (yaG d) d i else V t i
theorem y39 {N p x:Int} {d:List Int} (h:3≤N∧N≤5) (hp:0≤p∧p≤N-1) (hd:(d.length:Int)=N-1):((List.range N.toNat).map (fun(i:Nat)=>yco p N x d i)).Perm (x::d):=by
 have:N=3∨N=4∨N=5:=by omega
 rcases this with rfl | rfl | rfl
 ·match d,hd with
  | [a,b],_ =>
   have:p=0∨p=1∨p=2:=by omega
   rcases this with rfl | rfl | rfl<;>simp[yco,nth,List.range_succ,List.perm_iff_count,List.count_cons]<;>(intro z; omega)
  | [],hd=>simp at hd
  | [_],hd=>simp at hd
  | _::_::_::_,hd=>simp only[List.length_cons]at hd; omega
 ·match d,hd with
  | [a,b,c],_ =>
   have:p=0∨p=1∨p=2∨p=3:=by omega
   rcases this with rfl | rfl | rfl | rfl<;>simp[yco,nth,List.range_succ,List.perm_iff_count,List.count_cons]<;>(intro z; omega)
  | [],hd=>simp at hd
  | [_],hd=>simp at hd
  | [_,_],hd=>simp at hd
  | _::_::_::_::_,hd=>simp only[List.length_cons]at hd; omega
 ·match d,hd with
  | [a,b,c,e],_ =>
   have:p=0∨p=1∨p=2∨p=3∨p=4:=by omega
   rcases this with rfl | rfl | rfl | rfl | rfl<;>simp[yco,nth,List.range_succ,List.perm_iff_count,List.count_cons]<;>(intro z; omega)
  | [],hd=>simp at hd
  | [_],hd=>simp at hd
  | [_,_],hd=>simp at hd
  | [_,_,_],hd=>simp at hd
  | _::_::_::_::_::_,hd=>simp only[List.length_cons]at hd; omega
theorem yk2 (x:Int) (l:List Int):yfH (x::l)=bv x ^^^ yfH l:=by
 have fo: ∀(l:List Int) (v:BitVec 64),l.foldl (fun v x=>v ^^^ bv x) v=v ^^^ yfH l:=by
  intro l
  induction l with
  | nil=>intro v; show v=v ^^^ 0#64; rw[BitVec.xor_zero]
  | cons y t ih =>
   intro v;unfold yfH;rw[List.foldl_cons,List.foldl_cons,ih,ih (0#64 ^^^ bv y),BitVec.zero_xor,BitVec.xor_assoc]
 show l.foldl _ (0#64 ^^^ bv x)=_;rw[fo,BitVec.zero_xor]
theorem y5h {l m:List Int} (h:l.Perm m):yfH l=yfH m:=by
 induction h with
 | nil=>rfl
 | cons x _ ih=>rw[yk2,yk2,ih]
 | swap x y l=>rw[yk2,yk2,yk2,yk2,← BitVec.xor_assoc,BitVec.xor_comm (bv y),BitVec.xor_assoc]
 | trans _ _ h1 h2=>exact h1.trans h2
theorem y5g (d:List Int):yfH (yaG d::d)=0#64:=by rw[yk2,yoQ,yxG,BitVec.xor_self]
theorem y38 {N p:Int} {d:List Int} (h:3≤N∧N≤5) (hp:0≤p∧p≤N-1) (hd:(d.length:Int)=N-1):yaG ((List.range N.toNat).map (fun(i:Nat)=>yco p N (yaG d) d i))=0:=by
 rw[yoQ,y5h (y39 h hp hd),y5g]; rfl
theorem yKR {N p i:Int} {d:List Int} (hd:d.all isW=true):isW (yco p N (yaG d) d i)=true:=by
 unfold yco;cases(i==p)
 ·exact yYL hd
 ·exact y0g hd
theorem y3B {V:Int→Int→Int} {g:dG} {s:Int} {d:List Int} (h:EvV g V) (hs:yN g s=true) (hl:(d.length:Int)=g.1-1) (hd:d.all isW=true):EvV g (ycV V g s d):=by
 have h1:=yW.1 hs;have hg:=yl.1 h1.1;refine⟨fun t t0 t1=> ?_,fun t i t0 t1 i0 i1=> ?_⟩
 ·unfold ye9 ycV
  cases ht:(t==s)
  ·exact h.ev t t0 t1
  ·exact y38 hg.1 (yju hs) hl
 ·unfold ycV
  cases ht:(t==s)
  ·exact h.ew t i t0 t1 i0 i1
  ·exact yKR hd
theorem yCR {L B p N s i:Int} {d:List Int} {S:Int} {m:dM} (k:Int) (hk:k≠yy s):(yjc L B p N s d i m).2.2.1=m.2.2.1∧ya3 (yjc L B p N s d i m) k=ya3 m k∧ycn (yjc L B p N s d i m) k=ycn m k:=by
 unfold yjc;cases hl:yak L B i s m
 ·exact⟨rfl,rfl,rfl⟩
 ·refine⟨(yzV _ _ _).2,?_⟩
  rw[cond_true];cases hc:ybp m (yy s) [yco p N (yaG d) d i]
  ·unfold yZ; rw[hc]; exact⟨rfl,rfl⟩
  ·rw[yyE hc,yn6 hc,show(k !=yy s)=true from bne_iff_ne.2 hk,show(yy s==k)=false from beq_eq_false_iff_ne.2 (fun e=>hk e.symm),Bool.and_true]
   exact⟨rfl,rfl⟩
theorem yPy (L B p N s:Int) (d:List Int) (i:Int) (m:dM):(yjc L B p N s d i m).2.1.length≤m.2.1.length+1∧(m.2.2.1=true→yjc L B p N s d i m=m):=by
 unfold yjc;cases hl:yak L B i s m
 ·exact⟨Nat.le_succ _,fun _=>rfl⟩
 ·simp only[yak,Bool.and_eq_true,Bool.not_eq_true']at hl
  refine⟨?_,fun h=>by rw[hl.1]at h; cases h⟩;rw[cond_true];unfold yZ;cases ybp m (yy s) [yco p N (yaG d) d i]
  ·exact Nat.le_succ _
  ·show(m.2.1++ [(yy s,[yco p N (yaG d) d i])]).length≤_; rw[List.length_append]; simp only[List.length_cons,List.length_nil]; omega
theorem y6a {k:Int} {V:Int→Int→Int} {a:dA} {s:Int} {d:List Int} (h:Ix k V a) (hs:yN a.2.1 s=true) (hl:(d.length:Int)=a.2.1.1-1) (hd:d.all isW=true)
  (hz: ∀i,0≤i→i<a.2.1.1→(yi a i).2.2.1=false→(yi a i).2.1= []) (hu:ya (yB a s d)=false):Ix k (ycV V a.2.1 s d) (yB a s d):=by
 have hc:=yei a s d;have h1:=yW.1 hs;have hg:=yl.1 h1.1;have hlen:=h.xk.1.2;have hdsk: ∀i,0≤i→i<a.2.1.1→yi (yB a s d) i=yjc a.2.2.2.1 a.2.2.2.2.1 (yk a.2.1 s) a.2.1.1 s d i (yi a i):=fun i i0 i1=>yDW (yQk s d h.xu) hu i0 (by omega)
 refine⟨yC2 hc h.xc,yGF s d h.xk,hu,(ysg hc).trans h.xb,by rw[ysh hc]; exact h.xg,by rw[yfZ hc]; exact h.xs,by rw[yag hc]; exact y3B h.xe hs hl hd,fun i t i0 i1 t0 t1 hh=> ?_,fun i i0 i1=> ?_⟩
 ·rw[yag hc]at i1 t1
  obtain⟨d1,d2,d3⟩:=yeS h.xk i0 i1;unfold yaF at hh;rw[yn5 hc,yja hc,hdsk i i0 i1,Bool.and_eq_true,Bool.not_eq_true']at hh;rw[hdsk i i0 i1];have hda:=yjb (s:=s) h1.2.1 (by omega);unfold ycV;by_cases ht:t=s
  ·subst ht
   rw[beq_self_eq_true,cond_true]
   have hlv:yak a.2.2.2.1 a.2.2.2.2.1 i t (yi a i)=true:=by
    have:=hh.1;unfold yak at this ⊢;rw[(yCR (S:=0) (-1) (by omega)).1]at this;exact this
   have hf:(yi a i).2.2.1=false:=by
    simp only[yak,Bool.and_eq_true,Bool.not_eq_true']at hlv; exact hlv.1
   unfold yjc;rw[hlv,cond_true,yn6 (yq4 d1 hf (by rw[hda]; exact zj4.2 (by omega)) (yzE.2 ⟨by simp,fun x hx=> ?_⟩) (by rw[hz i i0 i1 hf]; decide)),hda,beq_self_eq_true]; rfl;rw[List.mem_singleton.1 hx];exact ypu.1 (yKR hd)
  ·rw[show(t==s)=false from beq_eq_false_iff_ne.2 ht]
   obtain⟨e1,e2,e3⟩:=yCR (L:=a.2.2.2.1) (B:=a.2.2.2.2.1) (p:=yk a.2.1 s) (N:=a.2.1.1) (s:=s) (i:=i) (d:=d) (S:=0) (m:=yi a i) (t+6) (by omega);rw[e3];refine h.xv i t i0 i1 t0 t1 ?_;unfold yaF;rw[e2]at hh;have h2:=hh.1;unfold yak at h2 ⊢;rw[e1]at h2;rw[h2,hh.2]; rfl
 ·rw[yag hc]at i1
  rw[yn5 hc,yja hc,hdsk i i0 i1];obtain⟨g1,g2⟩:=yPy a.2.2.2.1 a.2.2.2.2.1 (yk a.2.1 s) a.2.1.1 s d i (yi a i);have c:=h.xc;unfold yU at c;cases hf:(yi a i).2.2.1
  ·rw[hz i i0 i1 hf]at g1
   simp only[List.length_nil]at g1;cases(i==a.2.2.2.1)
   ·simp only[cond_false]; omega
   ·simp only[cond_true]; omega
  ·rw[g2 hf]
   exact h.xn i i0 i1
theorem y4V {k:Int} {V:Int→Int→Int} {a:dA} (h:Ix k V a) (hk:k+1≤60000) (hu:ya (yw a)=false):Ix (k+1) V (yw a)∧(yw a).2.2.2.2.2.1=a.2.2.2.2.2.1∧(yw a).2.2.2.2.2.1-(yw a).2.2.2.2.2.2.1≤3:=by
 have c:=h.xc;unfold yU at c
 have e0:yw a=bif leb 4 (a.2.2.2.2.2.1-a.2.2.2.2.2.2.1)then yq a else a:=by
  unfold yw;rw[wr (by omega) (by omega)]
 rw[e0]at hu ⊢;cases h4:leb 4 (a.2.2.2.2.2.1-a.2.2.2.2.2.2.1)
 ·refine⟨yYa h (by omega),rfl,?_⟩
  have: ¬(4≤a.2.2.2.2.2.1-a.2.2.2.2.2.2.1):=fun g=>by rw[zk0 g]at h4; cases h4
  show a.2.2.2.2.2.1-a.2.2.2.2.2.2.1≤3; omega
 ·rw[h4]at hu
  simp only[cond_true]at hu ⊢;have hi:=yRf h hk hu;obtain⟨_,h2⟩:=yIG hu;have e:=yjd (yV (ye a));have e1:(yq a).2.2.2.2.2.1=a.2.2.2.2.2.1:=by rw[h2]; exact(yfZ e).trans (show(yaw (yV (ye a))).2.2.2.2.2.1=_ from yfZ (a:=ye a) (b:=a) (yaL a))
  have e2:(yq a).2.2.2.2.2.2.1=a.2.2.2.2.2.1:=by rw[h2]; exact(yX0 e).trans (show(yaw (yV (ye a))).2.2.2.2.2.2.1=_ from yfZ (a:=ye a) (b:=a) (yaL a))
  exact⟨hi,e1,by omega⟩
theorem y5y {k:Int} {V:Int→Int→Int} {a:dA} {s:Int} {d:List Int} (h:Ix k V a) (hs:yN a.2.1 s=true) (hl:(d.length:Int)=a.2.1.1-1) (hd:d.all isW=true) (hq:a.2.2.2.2.2.1<60000) (hk:k+1≤60000)
  (hu:ya (yA a s d).2=false):Ix (k+2) (ycV V a.2.1 s d) (yA a s d).2∧(yA a s d).1=0:=by
 unfold yA at hu ⊢;cases hc:ya (yw a)
 ·obtain⟨h1,h2,h3⟩:=y4V h hk hc
  have eg:(yw a).2.1=a.2.1:=yXZ a;rw[hc]at hu;simp only[cond_false]at hu ⊢;have c:=h.xc;unfold yU at c;cases hr:ya (yp (yw a) ((yw a).2.2.2.2.2.1,s,d))
  ·rw[hr]at hu
   simp only[cond_false]at hu ⊢;obtain⟨h4,h5⟩:=y6u (r:=((yw a).2.2.2.2.2.1,s,d)) h1 (by show 0≤(yw a).2.2.2.2.2.1; omega) hr;have e1:=yfZ (ya6 (yw a) ((yw a).2.2.2.2.2.1,s,d));have e2:=yX0 (ya6 (yw a) ((yw a).2.2.2.2.2.1,s,d));have e3:=(yag (ya6 (yw a) ((yw a).2.2.2.2.2.1,s,d))).trans eg;rw[eg]at h5;generalize yp (yw a) ((yw a).2.2.2.2.2.1,s,d)=R at h4 h5 e1 e2 e3 hu ⊢;have h6:=y5w h4 (by omega) (by omega);have e4:(yC R).2.1=a.2.1:=e3;have h7:=y6a (s:=s) (d:=d) h6 (by rw[e4]; exact hs) (by rw[e4]; exact hl) hd (fun i i0 i1 hf=>h5 i i0 (by rw[e4]at i1; exact i1) hf) hu;rw[hu,e4]at *;exact⟨yYa h7 (by omega),rfl⟩
  ·rw[hr]at hu
   exact absurd (hr.symm.trans hu) (by simp)
 ·rw[hc]at hu
  exact absurd (hc.symm.trans hu) (by simp)
theorem yPB {k:Int} {V:Int→Int→Int} {a:dA} {l:List dW} (h:Ix k V a) (hd:yaY a.2.1 l=true):Ix k V (yym a l):=by
 obtain⟨⟨c1,c2,c3,c4,c5,c6,c7,c8,c9,c10,c11⟩,g2,g3,g4,g5,g6,g7,g8,g9⟩:=h;exact⟨⟨c1,c2,hd,c4,c5,c6,c7,c8,c9,c10,c11⟩,g2,g3,g4,g5,g6,g7,g8,g9⟩
theorem y3i {a:dA} (s:Int) (h:ya a=true):(yaW a s).2=a:=by
 unfold yaW;cases ltb (yan a.2.2.2.2.2.2.2.2.1 s) 0
 ·cases hc:(yO a s (nth a.2.2.2.2.2.2.2.2.1 (yan a.2.2.2.2.2.2.2.2.1 s) (0,[])).2 !=0)
  ·have:=(yyP (bne_eq_false_iff_eq.1 hc)).2.2.2.1
   rw[h]at this; cases this
  ·rfl
 ·rfl
theorem yZE: ∀(n i:Nat) {a:dA},ya a=true→(goE ymq (fun b=>((0:Int),b)) n i a).2=a
 | 0,_,_,_=>rfl
 | n+1,i,a,h=>by
  unfold goE ymq;have e:=y3i (nth a.2.2.2.2.2.2.2.2.1 0 (0,[])).1 h;cases((yaW a (nth a.2.2.2.2.2.2.2.2.1 0 (0,[])).1).1 !=0)
  ·simp only[cond_false,e]
   exact yZE n (i+1) h
  ·exact e
theorem y6v {k:Int} {V:Int→Int→Int} {a:dA} {b n:Int} (h:Ix k V a) (hb:ye7 a.2.1 b=true) (hn:isW n=true):Ix k V (yrg a b n).2:=by
 unfold yrg;cases hs:(ybR a (yY a.2.1 b)).2
 ·exact h
 ·have hstr:=yHv hb
  have hl:=yBg (yU1 h) hstr hs;refine yPB h (yZP h.xc.2.2.1 ⟨(yW.1 hstr).2,by rw[List.length_set]; exact hl,yZB ?_ hn⟩);unfold ybR;cases hk:leb 0 (yan a.2.2.2.2.2.2.2.2.1 (yY a.2.1 b))
  ·rw[h.xb]; exact yZN _ _
  ·have:=(yn8 (d:=((0:Int),([]:List Int))) hk).1
   exact yxU (P:=fun e:dW=>e.2.all isW=true) this (fun e he=>((yyS.1 h.xc.2.2.1).1 e he).2.2)
theorem yKS {a:dA} {m i:Int} {x:dM} (l:Int) (t:Int×Int×Int×Int×List dW×Int×Bool×Bool) (hm:inb m a.2.2.1.length=true) (hi:0≤i):yi (a.1,a.2.1,a.2.2.1.set m.toNat x,l,t) i=bif m==i then x else yi a i:=yxV hm hi
theorem y4M {a:dA} {m:Int} (hl:a.2.2.2.1= -1∨a.2.2.2.1=m) (hm:inb m a.2.2.1.length=true) (i s:Int) (i0:0≤i) (s0:0≤s) (hh:yak m 0 i s (yi (yax a m) i)=true):(i !=a.2.2.2.1||ltb s a.2.2.2.2.1)=true∧i≠m∧yi (yax a m) i=yi a i:=by
 have e:yi (yax a m) i=bif m==i then yao (yi a m)else yi a i:=yKS m _ hm i0;by_cases hi:m=i
 ·subst hi
  rw[e,beq_self_eq_true]at hh;simp only[yak,Bool.and_eq_true,Bool.not_eq_true',cond_true]at hh;have:=hh.1;cases this
 ·rw[show(m==i)=false from beq_eq_false_iff_ne.2 hi]at e
  refine⟨?_,fun e=>hi e.symm,e⟩;rw[show(i !=a.2.2.2.1)=true from bne_iff_ne.2 (by omega)]; rfl
theorem y3l {k m:Int} {V:Int→Int→Int} {a:dA} (h:Ix k V a) (hl:a.2.2.2.1= -1∨a.2.2.2.1=m) (hm:inb m a.2.2.1.length=true):Ix k V (yax a m):=by
 have hmi:=zj4.1 hm
 have hv:yIC V (yax a m):=yMH (a:=a) (b:=yax a m) rfl (fun i s i0 i1 s0 hh=>by
  obtain⟨h1,h2,h3⟩:=y4M hl hm i s i0 s0 hh;rw[h3]
  exact⟨h1,yGG _ _⟩) h.xv
 have hn: ∀i,0≤i→i<a.2.1.1→((yi (yax a m) i).2.1.length:Int)≤1+(bif i==m then 0 else 0):=fun i i0 i1=>by
  have e:yi (yax a m) i=bif m==i then yao (yi a m)else yi a i:=yKS m _ hm i0;rw[e];by_cases hi:m=i
  ·rw[show(m==i)=true from beq_iff_eq.2 hi]
   show(([]:List dW).length:Int)≤_;rw[List.length_nil];cases(i==m)<;>decide
  ·rw[show(m==i)=false from beq_eq_false_iff_ne.2 hi,cond_false]
   have:=h.xn i i0 i1;rw[show(i==a.2.2.2.1)=false from beq_eq_false_iff_ne.2 (by omega)]at this;simp only[cond_false]at this;cases(i==m)<;>simp only[cond_true,cond_false]<;>omega
 obtain⟨⟨c1,c2,c3,c4,c5,c6,c7,c8,c9,c10,c11⟩,⟨⟨g1,g2⟩,g3⟩,f,b,t,t2,t3,_,_⟩:=h;refine⟨⟨c1,c2,c3,⟨?_,?_⟩,⟨Int.le_refl _,by show(0:Int)≤a.2.1.2; omega⟩,fun e=>rfl,c7,c8,c9,c10,c11⟩,⟨⟨?_,?_⟩,g3⟩,f,b,t,t2,t3,hv,hn⟩
 ·show -1≤m; omega
 ·show m≤a.2.1.1-1; omega
 ·show yGH m a.2.2.2.2.2.2.2.2.2.2.2 a.2.1.2 (a.2.2.1.set m.toNat (yao (nth a.2.2.1 m yc)))
  refine yn9 (fun i hi=> ?_) (fun hi=> ?_)
  ·obtain⟨e1,e2,e3⟩:=g1 i hi
   refine⟨e1,e2,fun e=> ?_⟩;rcases e3 e with e | e
   ·exact .inl (by omega)
   ·exact .inr e
  ·have:=g1 m.toNat hi
   rw[Int.toNat_of_nonneg hmi.1]at this;exact⟨yMS this.1,this.2.1,fun _=> .inl (Int.toNat_of_nonneg hmi.1)⟩
 ·show((a.2.2.1.set m.toNat (yao (nth a.2.2.1 m yc))).length:Int)=a.2.1.1
  rw[List.length_set]; exact g2
theorem y57 {k m:Int} {V:Int→Int→Int} {a:dA} (h:Ix k V a) (hl:a.2.2.2.1= -1∨a.2.2.2.1=m) (hk:k+1≤60000):yia a m=yD (yax a m):=by
 have:=h.xg;unfold yia;rw[h.xu,h.xb,zkw (show a.2.2.2.2.2.2.2.1<60000 by omega)];rcases hl with e | e
 ·rw[show(a.2.2.2.1== -1)=true from beq_iff_eq.2 e]; rfl
 ·rw[show(a.2.2.2.1==m)=true from beq_iff_eq.2 e,Bool.or_true]; rfl
theorem yth {S:Int} (h:1≤S∧S≤8):ya9 (6+S)=(List.replicate (6+S).toNat [],[],false,[]):=by
 unfold ya9;rw[zk0 (show 1≤6+S by omega),zk0 (show 6+S≤20 by omega)]; rfl
theorem y3m {k:Int} {V:Int→Int→Int} {a:dA} (h:Ix k V a) (hm:inb a.2.2.2.1 a.2.2.1.length=true):Ix k V (yaa a):=by
 have hg:=yl.1 h.xc.1;have e: ∀i,0≤i→yi (yaa a) i=bif a.2.2.2.1==i then ya9 (6+a.2.1.2)else yi a i:=fun i i0=>yKS _ _ hm i0
 have hv:yIC V (yaa a):=yMH (a:=a) (b:=yaa a) rfl (fun i s i0 i1 s0 hh=>by
  have hh:yak a.2.2.2.1 0 i s (yi (yaa a) i)=true:=hh;rw[e i i0]at hh ⊢;simp only[yak,Bool.and_eq_true,Bool.or_eq_true,bne_iff_ne,ne_eq,zj8]at hh;have hne:i≠a.2.2.2.1:=hh.2.resolve_right (by omega);rw[show(a.2.2.2.1==i)=false from beq_eq_false_iff_ne.2 (fun e=>hne e.symm),show(i !=a.2.2.2.1)=true from bne_iff_ne.2 hne]
  exact⟨rfl,yGG _ _⟩) h.xv
 have hn: ∀i,0≤i→i<a.2.1.1→((yi (yaa a) i).2.1.length:Int)≤1+(bif i==a.2.2.2.1 then 0 else 0):=fun i i0 i1=>by
  rw[e i i0];by_cases hi:a.2.2.2.1=i
  ·rw[show(a.2.2.2.1==i)=true from beq_iff_eq.2 hi,cond_true,yth hg.2]
   show(([]:List dW).length:Int)≤_;rw[List.length_nil];cases(i==a.2.2.2.1)<;>decide
  ·rw[show(a.2.2.2.1==i)=false from beq_eq_false_iff_ne.2 hi,cond_false]
   have:=h.xn i i0 i1;rw[show(i==a.2.2.2.1)=false from beq_eq_false_iff_ne.2 (fun e=>hi e.symm)]at this ⊢;exact this
 have hmi:=zj4.1 hm;obtain⟨⟨c1,c2,c3,c4,c5,c6,c7,c8,c9,c10,c11⟩,⟨⟨g1,g2⟩,g3⟩,f,b,t,t2,t3,_,_⟩:=h;refine⟨⟨c1,c2,c3,c4,⟨Int.le_refl _,by show(0:Int)≤a.2.1.2; omega⟩,fun e=>rfl,c7,c8,c9,c10,c11⟩,⟨⟨yn9 g1 (fun hi=>⟨yLC (by omega) (by omega),?_,fun e=> ?_⟩),?_⟩,g3⟩,f,b,t,t2,t3,hv,hn⟩
 ·rw[yth hg.2]
  show((List.replicate (6+a.2.1.2).toNat ([]:List Int)).length:Int)=6+a.2.1.2;rw[List.length_replicate]; omega
 ·rw[yth hg.2]at e
  cases e
 ·show((a.2.2.1.set a.2.2.2.1.toNat (ya9 (6+a.2.1.2))).length:Int)=a.2.1.1
  rw[List.length_set]; exact g2
theorem y4u (S:Int) (m:dM) (n:Int):yDC S m (spoil m n):=by
 unfold spoil;cases(yv m&&(inb n m.1.length&& !(m.2.2.2.any (· ==n))))
 ·exact yGG _ _
 ·refine fun h=>⟨h,fun k k0 k1 hb=>⟨?_,rfl⟩⟩
  have hb:(yvf m.2.2.2 n).any (· ==k)=false:=hb;show m.2.2.2.any (· ==k)=false;rw[List.any_eq_false]at hb ⊢;intro x hx hxk;have hxk':=beq_iff_eq.1 hxk;refine hb x ?_ hxk;unfold yvf;rw[List.mem_append,List.mem_cons,List.mem_filter,List.mem_filter];rcases Int.lt_trichotomy x n with h1 | h1 | h1
  ·exact .inl ⟨hx,zkw h1⟩
  ·exact .inr (.inl h1)
  ·exact .inr (.inr ⟨hx,zkw h1⟩)
theorem y3u (m:dM) (n:Int):(spoil m n).2.1=m.2.1:=by
 unfold spoil;cases(yv m&&(inb n m.1.length&& !(m.2.2.2.any (· ==n))))<;>rfl
theorem y5x {k m n:Int} {V:Int→Int→Int} {a:dA} (h:Ix k V a) (hm:inb m a.2.2.1.length=true):Ix k V (ybx a m (spoil (nth a.2.2.1 m yc) n)) :=
 yMT (a:=a) (b:=ybx a m (spoil (nth a.2.2.1 m yc) n)) rfl (yrb h.xk hm (fun g=>⟨yTe n g.1,by rw[(yoz _ _).1]; exact g.2.1,by rw[(yoz _ _).2]; exact g.2.2⟩)) h.xu (fun i i0 i1=>by
  rw[yMR hm i0];by_cases hi:m=i
  ·subst hi
   rw[beq_self_eq_true,cond_true];exact⟨y4u _ _ _,by rw[y3u]; exact Nat.le_refl _⟩
  ·rw[show(m==i)=false from beq_eq_false_iff_ne.2 hi]
   exact⟨yGG _ _,Nat.le_refl _⟩) h
theorem y6b {k:Int} {V:Int→Int→Int} {a:dA} (h:Ix k V a) (hl:inb a.2.2.2.1 a.2.2.1.length=true) (hf:(nth a.2.2.1 a.2.2.2.1 yc).2.2.1=false) (hb:a.2.2.2.2.1<a.2.1.2) (hu:ya (yfT a).2=false):Ix k V (yfT a).2:=by
 have hmi:=zj4.1 hl;have hlen:=h.xk.1.2;have hg:=yl.1 h.xc.1;have c:=h.xc;unfold yU at c;have hb0:0≤a.2.2.2.2.1:=by omega
 have hda:=yjb hb0 (by omega);have e:=yhN a a.2.2.2.1 (yy a.2.2.2.2.1) [nth (yR a a.2.2.2.2.1).1 a.2.2.2.1 0];have hkp:yI (yaK a):=yxS h.xk hl;have hd:=yC3 (yy a.2.2.2.2.1) [nth (yR a a.2.2.2.2.1).1 a.2.2.2.1 0] h.xu hl;have e1:(yaK a).2.2.2.2.1=a.2.2.2.2.1:=yja e;have e2:(yaK a).2.1=a.2.1:=yag e;have e3:(yaK a).2.2.2.1=a.2.2.2.1:=yn5 e;unfold yfT at hu ⊢;cases hw:(yR a a.2.2.2.2.1).2
 ·exact h
 ·rw[hw]at hu
  have hwv:=yXa h.xc.1 h.xk h.xe h.xv hb0 hb
  have hw1:(yR a a.2.2.2.2.1).1=ye9 V a.2.1.1 a.2.2.2.2.1:=by
   rw[hwv]at hw ⊢;cases hm:ye8 (fun(i:Nat)=>yaF a a.2.2.2.2.1 i) a.2.1.1.toNat
   ·rfl
   ·rw[hm]at hw; cases hw
  have hx:nth (yR a a.2.2.2.2.1).1 a.2.2.2.1 0=V a.2.2.2.2.1 a.2.2.2.1:=by rw[hw1]; exact yTi V (by omega) (by omega)
  rw[hx]at hd e;have hst:yaK a=yby a a.2.2.2.1 (yy a.2.2.2.2.1) [V a.2.2.2.2.1 a.2.2.2.1]:=by unfold yaK; rw[hx]
  have hcc:yz (yaK a)=yz a:=by rw[hst]; exact e
  rw[← hst]at hd;generalize yaK a=R at *;simp only[cond_true]at hu ⊢;cases hr:ya R
  ·rw[hr]at hu
   obtain⟨_,_,⟨_,hdd⟩ | ⟨hdd,_⟩⟩:=hd
   ·obtain⟨d1,d2,d3⟩:=yeS h.xk (i:=a.2.2.2.1) (by omega) (by omega)
    have hf':(yi a a.2.2.2.1).2.2.1=false:=hf;have hxw:=h.xe.ew a.2.2.2.2.1 a.2.2.2.1 hb0 hb (by omega) (by omega);have hcn:=h.xn a.2.2.2.1 (by omega) (by omega);rw[beq_self_eq_true,cond_true]at hcn;have hcw:ybp (yi a a.2.2.2.1) (a.2.2.2.2.1+6) [V a.2.2.2.2.1 a.2.2.2.1]=true:=yq4 d1 hf' (zj4.2 (by omega)) (yzE.2 ⟨by simp,fun x hx=>by rw[List.mem_singleton.1 hx]; exact ypu.1 hxw⟩) (by omega);have e4:i64.wrap (R.2.2.2.2.1+1)=a.2.2.2.2.1+1:=by rw[e1]; exact wr (by omega) (by omega)
    have hRL:yi R a.2.2.2.1=(yZ (yi a a.2.2.2.1) (a.2.2.2.2.1+6) [V a.2.2.2.2.1 a.2.2.2.1]).1:=by
     rw[hdd _ (by omega),beq_self_eq_true,cond_true,hda];unfold yeo;rw[hf']; rfl
    have hRo: ∀i,0≤i→i≠a.2.2.2.1→yi R i=yi a i:=fun i i0 hi=>by rw[hdd i i0,show(a.2.2.2.1==i)=false from beq_eq_false_iff_ne.2 (fun e=>hi e.symm)]; rfl
    have hco:=yC2 hcc h.xc;refine⟨?_,hkp,hr,(ysg hcc).trans h.xb,by show R.2.2.2.2.2.2.2.1≤k; rw[ysh hcc]; exact h.xg,by show R.2.2.2.2.2.1≤k; rw[yfZ hcc]; exact h.xs,by show EvV R.2.1 V; rw[e2]; exact h.xe,?_,?_⟩
    ·obtain⟨c1,c2,c3,c4,c5,c6,c7,c8,c9,c10,c11⟩:=hco
     refine⟨c1,c2,c3,c4,⟨?_,?_⟩,fun e=> ?_,c7,c8,c9,c10,c11⟩
     ·show 0≤i64.wrap (R.2.2.2.2.1+1); omega
     ·show i64.wrap (R.2.2.2.2.1+1)≤R.2.1.2; rw[e4,e2]; omega
     ·have:R.2.2.2.1= -1:=e
      omega
    ·intro i t i0 i1 t0 t1 hh
     have i1:i<R.2.1.1:=i1;have t1:t<R.2.1.2:=t1;rw[e2]at i1 t1;unfold yaF at hh;have hh:(yak R.2.2.2.1 (i64.wrap (R.2.2.2.2.1+1)) i t (yi R i)&& !(ya3 (yi R i) (t+6)))=true:=hh;show ycn (yi R i) (t+6)= [V t i];rw[e3,e4]at hh;by_cases hi:i=a.2.2.2.1
     ·subst hi
      rw[hRL]at hh ⊢;rw[yn6 hcw];by_cases ht:a.2.2.2.2.1+6=t+6
      ·rw[show(a.2.2.2.2.1+6==t+6)=true from beq_iff_eq.2 ht,show a.2.2.2.2.1=t by omega]; rfl
      ·rw[show(a.2.2.2.2.1+6==t+6)=false from beq_eq_false_iff_ne.2 ht,cond_false]
       refine h.xv _ t i0 i1 t0 t1 ?_;rw[yyE hcw,show(t+6 !=a.2.2.2.2.1+6)=true from bne_iff_ne.2 (fun e=>ht e.symm),Bool.and_true,Bool.and_eq_true]at hh;have h2:=hh.1;simp only[yak,Bool.and_eq_true,Bool.or_eq_true,bne_self_eq_false,Bool.false_eq_true,false_or,zj8]at h2;unfold yaF yak;rw[hf',hh.2,zkw (show t<a.2.2.2.2.1 by omega),Bool.or_true]; rfl
     ·rw[hRo i i0 hi]at hh ⊢
      refine h.xv i t i0 i1 t0 t1 ?_;rw[Bool.and_eq_true]at hh;have h2:=hh.1;simp only[yak,Bool.and_eq_true]at h2;unfold yaF yak;rw[h2.1,hh.2,show(i !=a.2.2.2.1)=true from bne_iff_ne.2 hi]; rfl
    ·intro i i0 i1
     have i1:i<R.2.1.1:=i1;rw[e2]at i1;show((yi R i).2.1.length:Int)≤1+(bif i==R.2.2.2.1 then i64.wrap (R.2.2.2.2.1+1)else 0);rw[e3,e4];by_cases hi:i=a.2.2.2.1
     ·subst hi
      rw[hRL,yJl hcw,beq_self_eq_true,cond_true];show(((yi a a.2.2.2.1).2.1++ [(a.2.2.2.2.1+6,[V a.2.2.2.2.1 a.2.2.2.1])]).length:Int)≤_;rw[List.length_append];simp only[List.length_cons,List.length_nil];omega
     ·rw[hRo i i0 hi,show(i==a.2.2.2.1)=false from beq_eq_false_iff_ne.2 hi]
      have:=h.xn i i0 i1;rw[show(i==a.2.2.2.1)=false from beq_eq_false_iff_ne.2 hi]at this;exact this
   ·rw[hr]at hdd; cases hdd
  ·rw[hr]at hu
   exact absurd (hr.symm.trans hu) (by simp)
theorem yPE {id i:Int} {g:dG} (hg:yd g=true): ∀n:Nat,n≤g.2.toNat→ ∀k:Int,0≤k→nth ((List.range n).foldl ypC (yjq id g i)).1 k []=bif leb 6 k&&ltb k (6+n)then[0]else bif k==0 then ym (y2O id g i)else[]:=by
 have hge:=yl.1 hg;intro n
 induction n with
 | zero =>
  intro _ k hk;show nth (yjq id g i).1 k []=_;unfold yjq;rw[yth hge.2];have h0:inb 0 (List.replicate (6+g.2).toNat ([]:List Int)).length=true:=by rw[List.length_replicate]; exact zj4.2 (by omega)
  have:=yxV (x:=ym (y2O id g i)) (d:=([]:List Int)) h0 hk;rw[show(0:Int).toNat=0 from rfl]at this;rw[this]
  have e1:(leb 6 k&&ltb k (6+((0:Nat):Int)))=false:=by
   cases h:(leb 6 k&&ltb k (6+((0:Nat):Int)))
   ·rfl
   ·rw[Bool.and_eq_true,zj5,zj8]at h; omega
  rw[e1,cond_false];by_cases h:k=0
  ·rw[show((0:Int)==k)=true from beq_iff_eq.2 h.symm,show(k==0)=true from beq_iff_eq.2 h]; rfl
  ·rw[show((0:Int)==k)=false from beq_eq_false_iff_ne.2 (fun e=>h e.symm),show(k==0)=false from beq_eq_false_iff_ne.2 h,cond_false,cond_false]
   unfold nth;rw[List.getD_eq_getElem?_getD,List.getElem?_replicate];split<;>rfl
 | succ n ih =>
  intro hn k hk;rw[List.range_succ,List.foldl_append,List.foldl_cons,List.foldl_nil]
  have hlen:((List.range n).foldl ypC (yjq id g i)).1.length=(6+g.2).toNat:=by
   rw[yPD];show((ya9 (6+g.2)).1.set 0 _).length=_;rw[List.length_set,yth hge.2];show(List.replicate (6+g.2).toNat ([]:List Int)).length=_;rw[List.length_replicate]
  have h1:=ih (by omega) k hk;generalize (List.range n).foldl ypC (yjq id g i)=M at h1 hlen ⊢;show nth (M.1.set (n+6) [0]) k []=_;have:=yxV (l:=M.1) (i:=((n+6:Nat):Int)) (x:= [0]) (d:=([]:List Int)) (zkP (by omega)) hk;rw[Int.toNat_natCast]at this;rw[this,h1];by_cases h:((n+6:Nat):Int)=k
  ·rw[show(((n+6:Nat):Int)==k)=true from beq_iff_eq.2 h,zk0 (show 6≤k by omega),zkw (show k<6+((n+1:Nat):Int)by omega)]; rfl
  ·rw[show(((n+6:Nat):Int)==k)=false from beq_eq_false_iff_ne.2 h,cond_false,show ltb k (6+((n+1:Nat):Int))=ltb k (6+(n:Int))by rw[Bool.eq_iff_iff,zj8,zj8]; omega]
theorem y2w (g:dG):EvV g (fun _ _=>0):=by
 refine⟨fun s _ _=> ?_,fun _ _ _ _ _ _=>rfl⟩;unfold ye9;rw[yoQ]
 have: ∀l:List Nat,yfH (l.map (fun(_:Nat)=>(0:Int)))=0#64:=by
  intro l
  induction l with
  | nil=>rfl
  | cons x t ih=>rw[List.map_cons,yk2,ih]; decide
 rw[this]; rfl
theorem y41 {id:Int} {g:dG} (hg:yd g=true) (h1:1≤id) (h2:id≤60000) {i:Int} (i0:0≤i) (i1:i<g.1):yi (yeG id g) i=yP id g i:=by
 rw[yFX hg h1 h2];show nth ((List.range g.1.toNat).map (fun(i:Nat)=>yP id g i)) i yc=_;unfold nth;rw[zkH (by rw[List.length_map,List.length_range]; omega),List.getElem_map,List.getElem_range,Int.toNat_of_nonneg i0]
theorem y6t {id:Int} {g:dG} (hg:yd g=true) (h1:1≤id) (h2:id≤60000):Ix 0 (fun _ _=>0) (yeG id g):=by
 have hw:=y29 hg h1 h2;have hge:=yl.1 hg;have e:=yFX hg h1 h2;have eg:(yeG id g).2.1=g:=by rw[e]
 have ed: ∀i,0≤i→i<g.1→yi (yeG id g) i=yP id g i:=fun i i0 i1=>y41 hg h1 h2 i0 i1
 refine⟨hw.1,hw.2.1,hw.2.2.1.1,hw.2.2.2.1,hw.2.2.2.2,by rw[e]; exact Int.le_refl _,y2w _,fun i s i0 i1 s0 s1 _=> ?_,fun i i0 i1=> ?_⟩
 ·rw[eg]at i1 s1
  rw[ed i i0 i1];obtain⟨_,_,n3⟩:=ypD id i hg;unfold ycn;rw[n3];show nth (yP id g i).1 (s+6) []=_;unfold yP;rw[yPE hg g.2.toNat (Nat.le_refl _) (s+6) (by omega),zk0 (show 6≤s+6 by omega),zkw (show s+6<6+(g.2.toNat:Int)by omega)]; rfl
 ·rw[eg]at i1
  rw[ed i i0 i1,(ypD id i hg).2.2,e];show((([]:List dW).length:Nat):Int)≤1+(bif i== -1 then 0 else 0);rw[List.length_nil];cases(i== -1)<;>decide
def yj0 (a:dA) (s:Int):Nat:=ynB (fun(i:Nat)=>yaF a s i) a.2.1.1.toNat
theorem y2B {k:Int} {V:Int→Int→Int} {a:dA} {s:Int} (h:Ix k V a) (s0:0≤s) (s1:s<a.2.1.2):yR a s=bif decide (yj0 a s<2)then(ye9 V a.2.1.1 s,true)else([],false):=by
 rw[yXa h.xc.1 h.xk h.xe h.xv s0 s1,(yU7 _ _).2];show(bif decide (2≤yj0 a s)then([],false)else(ye9 V a.2.1.1 s,true))=_;by_cases h2:yj0 a s<2
 ·rw[decide_eq_true h2,decide_eq_false (by omega)]; rfl
 ·rw[decide_eq_false h2,decide_eq_true (by omega)]; rfl
def yeO (V:Int→Int→Int) (g:dG) (s:Int):List Int:=(List.range (g.1-1).toNat).map (fun(i:Nat)=>nth (ye9 V g.1 s) (yaV g s i) 0)
theorem y2A {k:Int} {V:Int→Int→Int} {a:dA} {s:Int} (h:Ix k V a) (s0:0≤s) (s1:s<a.2.1.2):yN a.2.1 s=true:=yW.2 ⟨h.xc.1,s0,by omega⟩
theorem y4e {k:Int} {V:Int→Int→Int} {a:dA} {s:Int} (h:Ix k V a) (s0:0≤s) (s1:s<a.2.1.2):ydU a s=bif decide (yj0 a s<2)then(yeO V a.2.1 s,true)else([],false):=by
 unfold ydU yrL;rw[yU1 h,h.xb,y2A h s0 s1,y2B h s0 s1];cases decide (yj0 a s<2)<;>rfl
theorem yyx (V:Int→Int→Int) (g:dG) (s:Int):(yeO V g s).length=(g.1-1).toNat:=by unfold yeO; rw[List.length_map,List.length_range]
def ye3 (id:Int) (g:dG) (G T L B i:Int):dS:=(id,G,i,g.1,g.2,T,L,B)
def yxg (id n:Int) (v:List Int) (s:dS):Prop:=yeT v=(s,true)∧s.1=id∧s.2.1.tmod 2=n
def yfX (id:Int) (f:Int→List Int):Prop:= ∃n s,(n=0∨n=1)∧yxg id n (f n) s
structure Wsup (id:Int) (g:dG) (G T L B Lf Bf:Int) (f:Int→Int→List Int) (fl:Int→Bool):Prop where
 u0: ∀i,0≤i→i<g.1→yH (ye3 id g G T L B i)=true
 u1: ∀i n s,0≤i→i<g.1→fl i=false→(n=0∨n=1)→yxg id n (f i n) s→s.2.2.1=i∧(s.2.1<G∨s=ye3 id g G T L B i)
 u2: ∀i,0≤i→i<g.1→i≠Lf→fl i=false∧yfX id (f i)
 u3: ∃i,0≤i∧i<g.1∧fl i=false∧f i (G.tmod 2)=ym (ye3 id g G T L B i)
 u4:(Lf=L∧Bf=B∧(Lf= -1∨(fl Lf=false∧yfX id (f Lf))))∨(0≤Lf∧Lf<g.1∧ ¬(fl Lf=false∧yfX id (f Lf))∧(L= -1∨L=Lf)∧Bf=0)
structure Wdat (g:dG) (T Q:Int) (R:Int→Int×List Int) (V:Int→Int→Int) (Lf Bf:Int) (f:Int→Int→List Int) (fl:Int→Bool) (bd:Int→Int→Bool):Prop where
 e:EvV g V
 q:0≤T∧T≤Q∧Q≤T+4∧Q≤60000
 d: ∀i s,0≤i→i<g.1→0≤s→s<g.2→fl i=false→(i≠Lf∨s<Bf)→bd i (s+6)=false→(∀q,T≤q→q<Q→(R q).1≠s)→f i (s+6)= [V s i]
 r: ∀q,T≤q→q<Q→ ∃i,0≤i∧i<g.1∧fl i=false∧f i (yh q)=yac (q,R q)
 h: ∀i n r,0≤i→i<g.1→fl i=false→2≤n→n<6→yaE (f i n)=(r,true)→r.1<Q∧(T≤r.1→r.2=R r.1)
 v: ∀q,T≤q→q<Q→yN g (R q).1=true∧((R q).2.length:Int)=g.1-1∧(R q).2.all isW=true
 l: ∀q,T≤q→q<Q→(∀p,q<p→p<Q→(R p).1≠(R q).1)→ ∀i,0≤i→i<g.1→V (R q).1 i=yco (yk g (R q).1) g.1 (yaG (R q).2) (R q).2 i
 b: ∀i n,0≤i→i<g.1→fl i=false→bd i n=true→6≤n
theorem yyp {id:Int} {g:dG} {G T L B i:Int} (h:yH (ye3 id g G T L B i)=true):yxg id (G.tmod 2) (ym (ye3 id g G T L B i)) (ye3 id g G T L B i):=⟨yJp h,rfl,rfl⟩
theorem yW6 {G:Int} (h:0≤G):G.tmod 2=0∨G.tmod 2=1:=by have:=yJf h; omega
theorem yfF {id:Int} {g:dG} {G T L B i:Int} (h:yH (ye3 id g G T L B i)=true):(0≤G∧G≤60000)∧yd g=true∧(1≤id∧id≤60000)∧(0≤T∧T≤60000)∧(-1≤L∧L≤g.1-1)∧(0≤B∧B≤g.2)∧(0≤L∨B=0):=by
 obtain⟨h1,h2,h3,h4,h5,h6,h7,h8⟩:=yyz.1 h;exact⟨h3,h1,h2,h5,h6,h7,h8⟩
theorem y23 {id:Int} {g:dG} {G T L B i:Int} (h1:0≤G∧G≤60000) (h2:yd g=true) (h3:1≤id∧id≤60000) (h4:0≤T∧T≤60000) (h5: -1≤L∧L≤g.1-1) (h6:0≤B∧B≤g.2) (h7:0≤L∨B=0) (i0:0≤i) (i1:i<g.1):yH (ye3 id g G T L B i)=true :=
 yyz.2 ⟨h2,h3,h1,⟨i0,by show i≤g.1-1; omega⟩,h4,h5,h6,h7⟩
theorem yHl {r:dN} (h:yX r=true):yaE (yac r)=(r,true):=by
 have hr:=yti.1 h;have ha:yJa (yac r)=r:=by unfold yac; rw[h]; rfl
 unfold yaE;rw[ha,h];unfold yac;rw[h];show(bif leb 4 ((21322::r.1::r.2.1::(r.2.2.length:Int)::r.2.2).length:Int)&&((21322:Int)==21322&&((r.2.2.length:Int)==((21322::r.1::r.2.1::(r.2.2.length:Int)::r.2.2).length:Int)-4&&true))then(r,true)else(yMV,false))=(r,true);have e:((21322::r.1::r.2.1::(r.2.2.length:Int)::r.2.2).length:Int)=r.2.2.length+4:=by simp only[List.length_cons]; omega
 rw[e,zk0 (show(4:Int)≤r.2.2.length+4 by omega),show((r.2.2.length:Int)==(r.2.2.length:Int)+4-4)=true from beq_iff_eq.2 (by omega)]; rfl
theorem yMC {g:dG} {q s:Int} {d:List Int} (h0:0≤q) (h1:q≤60000) (hs:yN g s=true) (hl:(d.length:Int)=g.1-1) (hd:d.all isW=true):yX (q,s,d)=true:=by
 have h:=yW.1 hs;have hg:=yl.1 h.1;exact yti.2 ⟨⟨h0,h1⟩,⟨h.2.1,by show s≤7; omega⟩,⟨by show 2≤(d.length:Int); omega,by show(d.length:Int)≤4; omega⟩,hd⟩
theorem ygU {id:Int} {g:dG} {G T L B Lf Bf:Int} {f f':Int→Int→List Int} {fl:Int→Bool} (h:Wsup id g G T L B Lf Bf f fl) (hf: ∀i n,0≤i→i<g.1→fl i=false→(n=0∨n=1)→f' i n=f i n):Wsup id g G T L B Lf Bf f' fl:=by
 have ow: ∀i,0≤i→i<g.1→fl i=false→(yfX id (f' i)↔yfX id (f i)):=fun i i0 i1 hi =>
  ⟨fun⟨n,s,hn,hs⟩=>⟨n,s,hn,by rw[hf i n i0 i1 hi hn]at hs; exact hs⟩,fun⟨n,s,hn,hs⟩=>⟨n,s,hn,by rw[hf i n i0 i1 hi hn]; exact hs⟩⟩
 refine⟨h.u0,fun i n s i0 i1 hi hn hs=>h.u1 i n s i0 i1 hi hn (by rw[hf i n i0 i1 hi hn]at hs; exact hs),fun i i0 i1 hne=> ?_,?_,?_⟩
 ·obtain⟨h1,h2⟩:=h.u2 i i0 i1 hne
  exact⟨h1,(ow i i0 i1 h1).2 h2⟩
 ·obtain⟨i,i0,i1,hi,h2⟩:=h.u3
  exact⟨i,i0,i1,hi,by rw[hf i _ i0 i1 hi (yW6 (yfF (h.u0 i i0 i1)).1.1)]; exact h2⟩
 ·rcases h.u4 with⟨h1,h2,h3⟩ | ⟨h1,h2,h3,h4⟩
  ·refine .inl ⟨h1,h2,?_⟩
   rcases h3 with h3 | ⟨h3,h4⟩
   ·exact .inl h3
   ·obtain⟨i,i0,i1,_⟩:=h.u3
    have:=(yfF (h.u0 i i0 i1)).2.2.2.2.1;by_cases hm:Lf= -1
    ·exact .inl hm
    ·exact .inr ⟨h3,(ow Lf (by omega) (by omega) h3).2 h4⟩
  ·exact .inr ⟨h1,h2,fun⟨h5,h6⟩=>h3 ⟨h5,(ow Lf h1 h2 h5).1 h6⟩,h4⟩
theorem yZC {g:dG} {T Q:Int} {R:Int→Int×List Int} {V:Int→Int→Int} {Lf Bf B2:Int} {f:Int→Int→List Int} {fl:Int→Bool} {bd:Int→Int→Bool} (h:Wdat g T Q R V Lf Bf f fl bd) (hb:B2≤Bf):Wdat g T Q R V Lf B2 f fl bd :=
 ⟨h.e,h.q,fun i s i0 i1 s0 s1 hi hl hb2 hj=>h.d i s i0 i1 s0 s1 hi (hl.imp id (fun h=>by omega)) hb2 hj,h.r,h.h,h.v,h.l,h.b⟩
theorem yfa {g:dG} {T Q:Int} {R:Int→Int×List Int} {V:Int→Int→Int} {Lf Bf:Int} {f f':Int→Int→List Int} {fl:Int→Bool} {bd bd':Int→Int→Bool} (h:Wdat g T Q R V Lf Bf f fl bd)
  (hf: ∀i n,0≤i→i<g.1→fl i=false→2≤n→(f' i n=f i n∧bd' i n=bd i n)∨(∃q,T≤q∧q<Q∧n=(R q).1+6)∨(i=Lf∧Bf+6≤n∧6≤n)) (hb: ∀i n,0≤i→i<g.1→bd' i n=true→bd i n=true):Wdat g T Q R V Lf Bf f' fl bd':=by
 have sl: ∀i n,0≤i→i<g.1→fl i=false→2≤n→n<6→f' i n=f i n:=fun i n i0 i1 hi h2 h6=>by
  rcases hf i n i0 i1 hi h2 with h1 | ⟨q,q0,q1,e⟩ | h1
  ·exact h1.1
  ·have:=yW.1 (h.v q q0 q1).1; omega
  ·omega
 have hq:=h.q;refine⟨h.e,h.q,fun i s i0 i1 s0 s1 hi hl hb2 hj=> ?_,fun q q0 q1=> ?_,fun i n r i0 i1 hi h2 h6 hr=>h.h i n r i0 i1 hi h2 h6 (by rw[sl i n i0 i1 hi h2 h6]at hr; exact hr),h.v,h.l,fun i n i0 i1 hi hn=>h.b i n i0 i1 hi (hb i n i0 i1 hn)⟩
 ·rcases hf i (s+6) i0 i1 hi (by omega)with⟨h1,h2⟩ | ⟨q,q0,q1,e⟩ | h1
  ·rw[h1]; rw[h2]at hb2; exact h.d i s i0 i1 s0 s1 hi hl hb2 hj
  ·exact absurd (by omega) (hj q q0 q1)
  ·omega
 ·obtain⟨i,i0,i1,hi,e⟩:=h.r q q0 q1
  have:=ykU (q:=q) (by omega);exact⟨i,i0,i1,hi,by rw[sl i _ i0 i1 hi this.1 this.2.1]; exact e⟩
theorem y5Q {g:dG} {T Q:Int} {R:Int→Int×List Int} {V:Int→Int→Int} {Lf Bf q:Int} {f f':Int→Int→List Int} {fl:Int→Bool} {bd bd':Int→Int→Bool} (h:Wdat g T Q R V Lf Bf f fl bd) (q0:T≤q) (q1:q<Q)
  (hf: ∀i n,0≤i→i<g.1→fl i=false→2≤n→f' i n=f i n∨(n=yh q∧f' i n=yac (q,R q))) (hb: ∀i n,0≤i→i<g.1→6≤n→bd' i n=bd i n) (hb2: ∀i n,0≤i→i<g.1→bd' i n=true→bd i n=true):Wdat g T Q R V Lf Bf f' fl bd':=by
 have hq:=h.q;have hv:=h.v q q0 q1;have ho:=yMC (q:=q) (by omega) (by omega) hv.1 hv.2.1 hv.2.2;have hsl:=ykU (q:=q) (by omega);refine⟨h.e,h.q,fun i s i0 i1 s0 s1 hi hl hb3 hj=> ?_,fun p p0 p1=> ?_,fun i n r i0 i1 hi h2 h6 hr=> ?_,h.v,h.l,fun i n i0 i1 hi hn=>h.b i n i0 i1 hi (hb2 i n i0 i1 hn)⟩
 ·rcases hf i (s+6) i0 i1 hi (by omega)with h1 | ⟨h1,_⟩
  ·rw[h1]; rw[hb i (s+6) i0 i1 (by omega)]at hb3; exact h.d i s i0 i1 s0 s1 hi hl hb3 hj
  ·omega
 ·obtain⟨i,i0,i1,hi,e⟩:=h.r p p0 p1
  have hsp:=ykU (q:=p) (by omega);refine⟨i,i0,i1,hi,?_⟩;rcases hf i _ i0 i1 hi hsp.1 with h1 | ⟨h1,h2⟩
  ·rw[h1]; exact e
  ·have:p=q:=by omega
   subst this; exact h2
 ·rcases hf i n i0 i1 hi h2 with h1 | ⟨_,h1⟩
  ·rw[h1]at hr; exact h.h i n r i0 i1 hi h2 h6 hr
  ·rw[h1,yHl ho]at hr
   have:=congrArg (fun x=>x.1) hr;simp only at this;subst this;exact⟨q1,fun _=>rfl⟩
def yZA (R:Int→Int×List Int) (Q s:Int) (d:List Int):Int→Int×List Int:=fun q=>bif q==Q then(s,d)else R q
theorem yyk (R:Int→Int×List Int) (Q s:Int) (d:List Int):yZA R Q s d Q=(s,d):=by unfold yZA; rw[beq_self_eq_true]; rfl
theorem ytj {R:Int→Int×List Int} {Q s q:Int} {d:List Int} (h:q<Q):yZA R Q s d q=R q:=by unfold yZA; rw[show(q==Q)=false from beq_eq_false_iff_ne.2 (by omega)]; rfl
theorem y0c {g:dG} {T Q:Int} {R:Int→Int×List Int} {V:Int→Int→Int} {Lf Bf s:Int} {d:List Int} {f f':Int→Int→List Int} {fl:Int→Bool} {bd bd':Int→Int→Bool} (h:Wdat g T Q R V Lf Bf f fl bd) (h3:Q≤T+3) (hQ:Q<60000) (hs:yN g s=true) (hl:(d.length:Int)=g.1-1) (hd:d.all isW=true)
  (hf: ∀i n,0≤i→i<g.1→fl i=false→2≤n→f' i n=f i n∨(n=yh Q∧f' i n=yac (Q,s,d))) (hb: ∀i n,0≤i→i<g.1→6≤n→bd' i n=bd i n) (hb2: ∀i n,0≤i→i<g.1→bd' i n=true→bd i n=true)
  (hx: ∃i,0≤i∧i<g.1∧fl i=false∧f' i (yh Q)=yac (Q,s,d)):Wdat g T (Q+1) (yZA R Q s d) (ycV V g s d) Lf Bf f' fl bd':=by
 have hq:=h.q;have ho:=yMC (q:=Q) (by omega) (by omega) hs hl hd;have hsl:=ykU (q:=Q) (by omega);refine⟨y3B h.e hs hl hd,by omega,fun i t i0 i1 s0 s1 hi hlv hb3 hj=> ?_,fun p p0 p1=> ?_,fun i n r i0 i1 hi h2 h6 hr=> ?_,fun p p0 p1=> ?_,fun p p0 p1 hp i i0 i1=> ?_,fun i n i0 i1 hi hn=>h.b i n i0 i1 hi (hb2 i n i0 i1 hn)⟩
 ·have hts:t≠s:=fun e=>hj Q (by omega) (by omega) (by rw[yyk]; exact e.symm)
  unfold ycV;rw[show(t==s)=false from beq_eq_false_iff_ne.2 hts,cond_false];rcases hf i (t+6) i0 i1 hi (by omega)with h1 | ⟨h1,_⟩
  ·rw[h1]; rw[hb i (t+6) i0 i1 (by omega)]at hb3
   exact h.d i t i0 i1 s0 s1 hi hlv hb3 (fun q q0 q1=>by have:=hj q q0 (by omega); rwa[ytj q1]at this)
  ·omega
 ·by_cases hpq:p=Q
  ·subst hpq; rw[yyk]; exact hx
  ·obtain⟨i,i0,i1,hi,e⟩:=h.r p p0 (by omega)
   have hsp:=ykU (q:=p) (by omega);refine⟨i,i0,i1,hi,?_⟩;rw[ytj (show p<Q by omega)];rcases hf i _ i0 i1 hi hsp.1 with h1 | ⟨h1,h2⟩
   ·rw[h1]; exact e
   ·omega
 ·rcases hf i n i0 i1 hi h2 with h1 | ⟨_,h1⟩
  ·rw[h1]at hr
   obtain⟨g1,g2⟩:=h.h i n r i0 i1 hi h2 h6 hr;exact⟨by omega,fun ht=>by rw[ytj g1]; exact g2 ht⟩
  ·rw[h1,yHl ho]at hr
   have:=congrArg (fun x=>x.1) hr;simp only at this;subst this;exact⟨by show Q<Q+1; omega,fun _=>(yyk R Q s d).symm⟩
 ·by_cases hpq:p=Q
  ·subst hpq; rw[yyk]; exact⟨hs,hl,hd⟩
  ·rw[ytj (show p<Q by omega)]; exact h.v p p0 (by omega)
 ·by_cases hpq:p=Q
  ·subst hpq; rw[yyk]; unfold ycV; rw[beq_self_eq_true]; rfl
  ·have hne:s≠(R p).1:=fun e=>hp Q (by omega) (by omega) (by rw[yyk,ytj (show p<Q by omega)]; exact e)
   rw[ytj (show p<Q by omega)];unfold ycV;rw[show((R p).1==s)=false from beq_eq_false_iff_ne.2 (fun e=>hne e.symm),cond_false];exact h.l p p0 (by omega) (fun p2 h1 h2=>by have:=hp p2 h1 (by omega); rwa[ytj (show p2<Q by omega),ytj (show p<Q by omega)]at this) i i0 i1
theorem y6E {id:Int} {g:dG} {G T L B Lf Bf T2 L2 B2 Lf2:Int} {f f':Int→Int→List Int} {fl:Int→Bool} (hs:Wsup id g G T L B Lf Bf f fl) (ho: ∀i,0≤i→i<g.1→yH (ye3 id g (G+1) T2 L2 B2 i)=true)
  (hf: ∀i n,0≤i→i<g.1→fl i=false→f' i n=f i n∨(n=(G+1).tmod 2∧f' i n=ym (ye3 id g (G+1) T2 L2 B2 i)))
  (h2: ∀i,0≤i→i<g.1→i≠Lf2→fl i=false∧yfX id (f i)) (h4:Lf2=L2∨(L2= -1∧0≤Lf2∧Lf2<g.1∧fl Lf2=true)) (hB:0≤B2) :
  Wsup id g G T L B Lf Bf f' fl∨ ∃Bg,Bg≤B2∧Wsup id g (G+1) T2 L2 B2 Lf2 Bg f' fl:=by
 obtain⟨j,j0,j1,jf,_⟩:=hs.u3;have hG:=yfF (hs.u0 j j0 j1);have hL2:=yfF (ho j j0 j1);have hsl:=yW6 (G:=G+1) (by omega);have hmod:(G+1).tmod 2≠G.tmod 2:=by rw[Int.tmod_eq_emod_of_nonneg (by omega),Int.tmod_eq_emod_of_nonneg (by omega)]; omega
 by_cases hx: ∃i,0≤i∧i<g.1∧fl i=false∧f' i ((G+1).tmod 2)=ym (ye3 id g (G+1) T2 L2 B2 i)
 ·right
  have ow: ∀i,0≤i→i<g.1→fl i=false→yfX id (f i)→yfX id (f' i):=fun i i0 i1 hi ⟨n,s,hn,hsv⟩=>by
   rcases hf i n i0 i1 hi with h | ⟨h,h1⟩
   ·exact⟨n,s,hn,by rw[h]; exact hsv⟩
   ·exact⟨n,_,hn,by rw[h1,h]; exact yyp (ho i i0 i1)⟩
  have a1: ∀i n s,0≤i→i<g.1→fl i=false→(n=0∨n=1)→yxg id n (f' i n) s→s.2.2.1=i∧(s.2.1<G+1∨s=ye3 id g (G+1) T2 L2 B2 i):=fun i n s i0 i1 hi hn hsv=>by
   rcases hf i n i0 i1 hi with h | ⟨h,h1⟩
   ·rw[h]at hsv
    obtain⟨g1,g2⟩:=hs.u1 i n s i0 i1 hi hn hsv;refine⟨g1,.inl ?_⟩;rcases g2 with g2 | g2
    ·omega
    ·rw[g2]; show G<G+1; omega
   ·rw[h1]at hsv
    have:=(yyp (ho i i0 i1)).1.symm.trans hsv.1;have:=congrArg (fun x=>x.1) this;simp only at this;subst this;exact⟨rfl,.inr rfl⟩
  have a2: ∀i,0≤i→i<g.1→i≠Lf2→fl i=false∧yfX id (f' i):=fun i i0 i1 hne=>by
   obtain⟨k1,k2⟩:=h2 i i0 i1 hne;exact⟨k1,ow i i0 i1 k1 k2⟩
  rcases h4 with h4 | ⟨h4,h5,h6,h7⟩
  ·by_cases hm:Lf2= -1
   ·exact⟨B2,Int.le_refl _,ho,a1,a2,hx,.inl ⟨h4,rfl,.inl hm⟩⟩
   ·by_cases hown:fl Lf2=false∧yfX id (f' Lf2)
    ·exact⟨B2,Int.le_refl _,ho,a1,a2,hx,.inl ⟨h4,rfl,.inr hown⟩⟩
    ·exact⟨0,hB,ho,a1,a2,hx,.inr ⟨by omega,by omega,hown,.inr h4.symm,rfl⟩⟩
  ·exact⟨0,hB,ho,a1,a2,hx,.inr ⟨h5,h6,(fun h=>by have:=h.1; rw[h7]at this; cases this),.inl h4,rfl⟩⟩
 ·left
  refine ygU hs (fun i n i0 i1 hi hn=> ?_);rcases hf i n i0 i1 hi with h | ⟨h,h1⟩
  ·exact h
  ·exact absurd ⟨i,i0,i1,hi,by rw[← h]; exact h1⟩ hx
def yF (a:dA) (i:Int):Bool:=(yi a i).2.2.1
def yJ (a:dA) (i n:Int):Bool:=ya3 (yi a i) n
def Ch (a:dA) (f:Int→Int→List Int):Prop:= ∀i n,0≤i→i<a.2.1.1→0≤n→yla (yi a i) n (f i n)
def TrD (n:Int) (v:List Int) (m x:dM):Prop:=(∀k w,0≤k→yla x k w→yla m k w∨(k=n∧w=v))∧x.2.2.1=m.2.2.1∧(∀k,k≠n→ya3 x k=ya3 m k)∧ ∀k,ya3 x k=true→ya3 m k=true
theorem yyq (n:Int) (v:List Int) (m:dM):TrD n v m m:=⟨fun _ _ _ h=> .inl h,rfl,fun _ _=>rfl,fun _ h=>h⟩
theorem y48 {n:Int} {v:List Int} {m x y:dM} (h:TrD n v m x) (g:TrD n v x y):TrD n v m y :=⟨fun k w k0 hw=>(g.1 k w k0 hw).elim (h.1 k w k0) .inr,g.2.1.trans h.2.1,fun k hk=>(g.2.2.1 k hk).trans (h.2.2.1 k hk),fun k hk=>h.2.2.2 k (g.2.2.2 k hk)⟩
theorem yZ8 (n:Int) (v:List Int) (m:dM):TrD n v m (yZ m n v).1:=by
 refine⟨fun k w _ hw=>y4q hw,(yzV m n v).2,fun k hk=> ?_,fun k hk=> ?_⟩
 ·cases hc:ybp m n v
  ·unfold yZ; rw[hc]; rfl
  ·rw[yyE hc,show(k !=n)=true from bne_iff_ne.2 hk,Bool.and_true]
 ·cases hc:ybp m n v
  ·unfold yZ at hk; rw[hc]at hk; exact hk
  ·rw[yyE hc,Bool.and_eq_true]at hk; exact hk.1
theorem y3V (n:Int) (v:List Int) (m:dM):TrD n v m (yeo n v m):=by
 unfold yeo;cases m.2.2.1
 ·exact yZ8 n v m
 ·exact yyq n v m
theorem yZ7 (n:Int) (v:List Int) {m:dM} (h:yv m=true):TrD n v m (yE m):=by
 refine⟨fun k w k0 hw=> .inl ?_,(ytd m).2,fun k _=>yKT m k,fun k hk=>by rw[yKT]at hk; exact hk⟩;cases hf:m.2.2.1
 ·rw[yu4 h hf k0 hw]; exact yxO m k
 ·unfold yE at hw; rw[hf,Bool.not_true,Bool.and_false]at hw; exact hw
structure Trn (n:Int) (v:Int→List Int) (a r:dA):Prop where
 g:r.2.1=a.2.1
 c: ∀f',Ch r f'→ ∃f,Ch a f∧ ∀i m,0≤i→i<a.2.1.1→0≤m→f' i m=f i m∨(m=n∧f' i m=v i)
 f: ∀i,0≤i→i<a.2.1.1→yF r i=yF a i
 b: ∀i m,0≤i→i<a.2.1.1→m≠n→yJ r i m=yJ a i m
 d: ∀i m,0≤i→i<a.2.1.1→yJ r i m=true→yJ a i m=true
theorem y49 {n:Int} {v:Int→List Int} {a r:dA} (hg:r.2.1=a.2.1) (h: ∀i,0≤i→i<a.2.1.1→TrD n (v i) (yi a i) (yi r i)):Trn n v a r:=by
 refine⟨hg,fun f' hf'=> ?_,fun i i0 i1=>(h i i0 i1).2.1,fun i m i0 i1 hm=>(h i i0 i1).2.2.1 m hm,fun i m i0 i1 hm=>(h i i0 i1).2.2.2 m hm⟩
 classical
 refine⟨fun i m=>if yla (yi a i) m (f' i m)then f' i m else ycn (yi a i) m,fun i m i0 i1 m0=> ?_,fun i m i0 i1 m0=> ?_⟩
 ·show yla (yi a i) m (if yla (yi a i) m (f' i m)then f' i m else ycn (yi a i) m)
  split
  ·assumption
  ·exact yxO _ _
 ·show f' i m=(if yla (yi a i) m (f' i m)then f' i m else ycn (yi a i) m)∨_
  rcases(h i i0 i1).1 m (f' i m) m0 (hf' i m i0 (by rw[hg]; exact i1) m0)with h1 | h1
  ·left; rw[if_pos h1]
  ·exact .inr h1
def yyr (a:dA):Prop:=(a.2.2.1.length:Int)=a.2.1.1∧ ∀i,0≤i→i<a.2.1.1→yv (yi a i)=true
theorem ybT {a:dA} (h:yI a):yyr a:=⟨h.1.2,fun _ i0 i1=>(yeS h i0 i1).1⟩
theorem yTh {n:Int} {v:Int→List Int} {a M:dA} (hg:M.2.1=a.2.1) (hl:M.2.2.1.length=a.2.2.1.length) (ha:yyr a) (h: ∀i,0≤i→i<a.2.1.1→yi M i=yi a i∨yi M i=yeo n (v i) (yi a i)):Trn n v a (ye M):=by
 refine y49 ((yag (yaL M)).trans hg) fun i i0 i1=> ?_
 have hM:TrD n (v i) (yi a i) (yi M i)∧yv (yi M i)=true:=by
  rcases h i i0 i1 with e | e
  ·rw[e]; exact⟨yyq _ _ _,ha.2 i i0 i1⟩
  ·rw[e]; exact⟨y3V _ _ _,ypt (ha.2 i i0 i1)⟩
 cases hd:ya M
 ·obtain⟨_,_,k,_,h3,_⟩:=yTf hd
  rw[h3 i i0];cases ltb i k
  ·exact hM.1
  ·exact y48 hM.1 (yZ7 _ _ hM.2)
 ·rw[ytm hd]; exact hM.1
theorem yJh {a:dA} (n:Int) (v:Int→List Int) (h:yyr a):Trn n v a (ye a):=yTh rfl rfl h (fun _ _ _=> .inl rfl)
theorem yUi {g:Int→dM→dM} {a r:dA} {n:Nat} (h:Adv g a r n) {i:Int} (i0:0≤i):yi r i=yi a i∨yi r i=g i (yi a i):=by
 obtain⟨_,_,k,_,h3,_⟩:=h;rw[h3 i i0];cases ltb i k
 ·exact .inl rfl
 ·exact .inr rfl
theorem yJg {a:dA} (h:yyr a):Trn ((i64.wrap (a.2.2.2.2.2.2.2.1+1)).tmod 2) (fun i=>ym (ye3 a.1 a.2.1 (i64.wrap (a.2.2.2.2.2.2.2.1+1)) a.2.2.2.2.2.2.1 a.2.2.2.1 a.2.2.2.2.1 i)) a (yD a):=by
 unfold yD;have hc:=yn7 (one:=yad) (fun _ _=>yhN _ _ _ _) (List.range a.2.2.1.length) (yaw a);have hl:((List.range a.2.2.1.length).foldl yad (yaw a)).2.2.1.length=a.2.2.1.length:=yjA (one:=yad) (fun _ _=>ypJ _ _ _ _) _ (yaw a);refine yTh (yag (b:=yaw a) hc) hl h fun i i0 i1=> ?_
 cases hd:ya a
 ·exact yUi (a:=yaw a) (y2L (a:=yaw a) hd) i0
 ·rw[ykY (one:=yad) (fun _ _ h=>yos h _ _ _) _ (yaw a) hd]; exact .inl rfl
theorem yMZ {a:dA} (r:dN) (h:yyr a):Trn (yh r.1) (fun _=>yac r) a (yp a r):=by
 unfold yp;have hc:=yn7 (one:=ybd r) (fun _ _=>yhN _ _ _ _) (List.range a.2.2.1.length) a;refine yTh (yag hc) (yjA (ylB r) _ _) h fun i i0 i1=> ?_
 cases hd:ya a
 ·exact yUi (y3Q r hd) i0
 ·rw[ykY (one:=ybd r) (fun _ _ h=>yos h _ _ _) _ a hd]; exact .inl rfl
theorem yTg {a:dA} (s:Int) (d:List Int) (h:yyr a):Trn (yy s) (fun i=> [yco (yk a.2.1 s) a.2.1.1 (yaG d) d i]) a (yB a s d):=by
 refine y49 (yag (yei a s d)) fun i i0 i1=> ?_
 cases hd:ya a
 ·rcases yUi (yQk s d hd) i0 with e | e
  ·rw[e]; exact yyq _ _ _
  ·rw[e]
   unfold yjc;cases yak a.2.2.2.1 a.2.2.2.2.1 i s (yi a i)
   ·exact yyq _ _ _
   ·exact yZ8 _ _ _
 ·have:yB a s d=a:=ykY (one:=ybe (yk a.2.1 s) a.2.1.1 s d) (fun _ _ h=>yEx _ _ _ _ _ h) _ a hd
  rw[this]; exact yyq _ _ _
def Al (L N:Int) (fl0 fl:Int→Bool) (Lf:Int):Prop:=(Lf=L∧ ∀i,0≤i→i<N→fl i=fl0 i)∨(0≤Lf∧Lf<N∧(L= -1∨L=Lf)∧ ∀i,0≤i→i<N→fl i=(fl0 i||i==Lf))
def Eq0 (a:dA) (fl:Int→Bool) (Lf:Int):Prop:=Lf=a.2.2.2.1∧ ∀i,0≤i→i<a.2.1.1→fl i=yF a i
theorem yDY {L N Lf i:Int} {fl0 fl:Int→Bool} (h:Al L N fl0 fl Lf) (i0:0≤i) (i1:i<N) (hi:fl i=false):fl0 i=false:=by
 rcases h with⟨_,h⟩ | ⟨_,_,_,h⟩
 ·rw[← h i i0 i1]; exact hi
 ·rw[h i i0 i1,Bool.or_eq_false_iff]at hi; exact hi.1
theorem y5Z {L N Lf i:Int} {fl0 fl:Int→Bool} (h:Al L N fl0 fl Lf) (hb: ∀i,0≤i→i<N→fl0 i=true→i=L) (i0:0≤i) (i1:i<N) (hi:i≠Lf):fl i=false:=by
 cases hf:fl0 i
 ·rcases h with⟨_,h⟩ | ⟨_,_,_,h⟩
  ·rw[h i i0 i1]; exact hf
  ·rw[h i i0 i1,hf,show(i==Lf)=false from beq_eq_false_iff_ne.2 hi]; rfl
 ·have:=hb i i0 i1 hf
  rcases h with⟨h,_⟩ | ⟨_,_,h,_⟩<;>omega
theorem yyw {L N Lf:Int} {fl0 fl1 fl:Int→Bool} (h:Al L N fl1 fl Lf) (e: ∀i,0≤i→i<N→fl1 i=fl0 i):Al L N fl0 fl Lf :=
 h.imp (fun⟨h1,h2⟩=>⟨h1,fun i i0 i1=>(h2 i i0 i1).trans (e i i0 i1)⟩) (fun⟨h1,h2,h3,h4⟩=>⟨h1,h2,h3,fun i i0 i1=>by rw[h4 i i0 i1,e i i0 i1]⟩)
def WW (K id:Int) (g:dG) (V:Int→Int→Int) (Lf:Int) (f:Int→Int→List Int) (fl:Int→Bool) (bd:Int→Int→Bool):Prop:= ∃(G T L B Q:Int) (R:Int→Int×List Int) (Bf:Int),G≤K∧Q≤K∧Wsup id g G T L B Lf Bf f fl∧Wdat g T Q R V Lf Bf f fl bd
theorem y3X {K J id:Int} {g:dG} {V:Int→Int→Int} {Lf:Int} {f:Int→Int→List Int} {fl:Int→Bool} {bd:Int→Int→Bool} (h:WW K id g V Lf f fl bd) (hj:K≤J):WW J id g V Lf f fl bd:=by
 obtain⟨G,T,L,B,Q,R,Bf,h1,h2,h3⟩:=h;exact⟨G,T,L,B,Q,R,Bf,Int.le_trans h1 hj,Int.le_trans h2 hj,h3⟩
structure Mk (a:dA):Prop where
 k:yyr a
 g:yd a.2.1=true
 i:1≤a.1∧a.1≤60000
 l: -1≤a.2.2.2.1∧a.2.2.2.1≤a.2.1.1-1
 b:0≤a.2.2.2.2.1∧a.2.2.2.2.1≤a.2.1.2
 z:0≤a.2.2.2.1∨a.2.2.2.2.1=0
 t:0≤a.2.2.2.2.2.2.1∧a.2.2.2.2.2.2.1≤60000
 n:0≤a.2.2.2.2.2.2.2.1∧a.2.2.2.2.2.2.2.1<60000
theorem y3L {a:dA} (h:yU a) (hk:yI a) (hg:a.2.2.2.2.2.2.2.1<60000):Mk a:=by
 obtain⟨c1,c2,c3,c4,c5,c6,c7,c8,c9,c10,c11⟩:=h;refine⟨ybT hk,c1,c2,c4,c5,?_,c7,c10,hg⟩;by_cases e:a.2.2.2.1= -1
 ·exact .inr (c6 e)
 ·exact .inl (by omega)
theorem yU8 {a:dA} (h:Mk a) {i:Int} (i0:0≤i) (i1:i<a.2.1.1):yH (ye3 a.1 a.2.1 (a.2.2.2.2.2.2.2.1+1) a.2.2.2.2.2.2.1 a.2.2.2.1 a.2.2.2.2.1 i)=true:=by
 have:=h.n;exact y23 (by omega) h.g h.i h.t h.l h.b h.z i0 i1
theorem yZ1 {a:dA} {T L B Q Lf Lf2:Int} {R:Int→Int×List Int} {V:Int→Int→Int} {f':Int→Int→List Int} {fl:Int→Bool} (hm:Mk a) (hc:Ch (yD a) f') (hfl: ∀i,0≤i→i<a.2.1.1→fl i=false→yF a i=false)
  (old: ∀f,Ch a f→ ∃Bf,Wsup a.1 a.2.1 a.2.2.2.2.2.2.2.1 T L B Lf Bf f fl∧Wdat a.2.1 T Q R V Lf Bf f fl (yJ a))
  (new: ∀f,Ch a f→Wdat a.2.1 a.2.2.2.2.2.2.1 Q R V Lf2 a.2.2.2.2.1 f fl (yJ a))
  (h2: ∀f,Ch a f→ ∀i,0≤i→i<a.2.1.1→i≠Lf2→fl i=false∧yfX a.1 (f i)) (h4:Lf2=a.2.2.2.1∨(a.2.2.2.1= -1∧0≤Lf2∧Lf2<a.2.1.1∧fl Lf2=true)) :
  (∃Bf,Wsup a.1 a.2.1 a.2.2.2.2.2.2.2.1 T L B Lf Bf f' fl∧Wdat a.2.1 T Q R V Lf Bf f' fl (yJ (yD a))) ∨
   ∃Bf,Wsup a.1 a.2.1 (a.2.2.2.2.2.2.2.1+1) a.2.2.2.2.2.2.1 a.2.2.2.1 a.2.2.2.2.1 Lf2 Bf f' fl∧Wdat a.2.1 a.2.2.2.2.2.2.1 Q R V Lf2 Bf f' fl (yJ (yD a)):=by
 have ht:=yJg hm.k;have hn:=hm.n;rw[wq (a.2.2.2.2.2.2.2.1+1) (by omega) (by omega)]at ht;obtain⟨f,hf,hff⟩:=ht.c f' hc;obtain⟨Bf,o1,o2⟩:=old f hf;have hsl:=yJf (g:=a.2.2.2.2.2.2.2.1+1) (by omega)
 have hf0: ∀i n,0≤i→i<a.2.1.1→fl i=false→2≤n→f' i n=f i n∧yJ (yD a) i n=yJ a i n:=fun i n i0 i1 hi h2=>by
  rcases hff i n i0 i1 (by omega)with h | ⟨h,_⟩
  ·exact⟨h,ht.b i n i0 i1 (by omega)⟩
  ·omega
 have dat: ∀{T Q Lf Bf:Int},Wdat a.2.1 T Q R V Lf Bf f fl (yJ a)→Wdat a.2.1 T Q R V Lf Bf f' fl (yJ (yD a)):=fun h =>
  yfa h (fun i n i0 i1 hi h2=> .inl (hf0 i n i0 i1 hi h2)) (fun i n i0 i1 hb=>ht.d i n i0 i1 hb)
 have hff2: ∀i n,0≤i→i<a.2.1.1→fl i=false→0≤n→f' i n=f i n∨(n=(a.2.2.2.2.2.2.2.1+1).tmod 2∧f' i n=ym (ye3 a.1 a.2.1 (a.2.2.2.2.2.2.2.1+1) a.2.2.2.2.2.2.1 a.2.2.2.1 a.2.2.2.2.1 i)):=fun i n i0 i1 _ n0=>hff i n i0 i1 n0
 obtain⟨F,hF⟩: ∃F:Int→Int→List Int,F=fun i n=>if 0≤n then f' i n else f i n:=⟨_,rfl⟩
 have hFe: ∀i n,0≤n→F i n=f' i n:=fun i n n0=>by rw[hF]; exact if_pos n0
 have hw:=y6E (T2:=a.2.2.2.2.2.2.1) (L2:=a.2.2.2.1) (B2:=a.2.2.2.2.1) (f':=F) o1 (fun i i0 i1=>yU8 hm i0 i1) (fun i n i0 i1 hi=>by
  by_cases n0:0≤n
  ·rw[hFe i n n0]; exact hff2 i n i0 i1 hi n0
  ·left; rw[hF]; exact if_neg n0) (h2 f hf) h4 hm.b.1
 have back: ∀{G T L B Lf Bf:Int},Wsup a.1 a.2.1 G T L B Lf Bf F fl→Wsup a.1 a.2.1 G T L B Lf Bf f' fl:=fun h=>ygU h (fun i n i0 i1 _ hn=>(hFe i n (by omega)).symm)
 rcases hw with hw | ⟨Bg,hg,hw⟩
 ·exact .inl ⟨Bf,back hw,dat o2⟩
 ·exact .inr ⟨Bg,back hw,dat (yZC (new f hf) hg)⟩
theorem yZ0 {a:dA} {Q Lf:Int} {R:Int→Int×List Int} {V:Int→Int→Int} {f':Int→Int→List Int} {fl:Int→Bool} (hm:Mk a) (hu:ya (yD a)=false) (hx: ∀i,0≤i→i<a.2.1.1→2≤(yi a i).1.length∧(yi a i).2.1.length<60) (hb: ∀i,0≤i→i<a.2.1.1→yF a i=true→i=a.2.2.2.1)
  (hc:Ch (yD a) f') (hal:Al a.2.2.2.1 a.2.1.1 (yF a) fl Lf)
  (base: ∀f,Ch a f→ ∀i n s,0≤i→i<a.2.1.1→yF a i=false→(n=0∨n=1)→yxg a.1 n (f i n) s→s.2.2.1=i∧s.2.1≤a.2.2.2.2.2.2.2.1)
  (new: ∀f,Ch a f→Wdat a.2.1 a.2.2.2.2.2.2.1 Q R V Lf a.2.2.2.2.1 f fl (yJ a)) (hz:a.2.2.2.1≠ -1→yF a a.2.2.2.1=true→a.2.2.2.2.1=0) :
  ∃Bf,((Eq0 a fl Lf→Bf=a.2.2.2.2.1)∧(Eq0 a fl Lf→Lf≠ -1→fl Lf=false→yfX a.1 (f' Lf)))∧Wsup a.1 a.2.1 (a.2.2.2.2.2.2.2.1+1) a.2.2.2.2.2.2.1 a.2.2.2.1 a.2.2.2.2.1 Lf Bf f' fl∧Wdat a.2.1 a.2.2.2.2.2.2.1 Q R V Lf Bf f' fl (yJ (yD a)):=by
 have ht:=yJg hm.k;have hn:=hm.n;have hlen:=hm.k.1;have hg3:=yl.1 hm.g;have hw:i64.wrap (a.2.2.2.2.2.2.2.1+1)=a.2.2.2.2.2.2.2.1+1:=wr (by omega) (by omega);have hsl:=yJf (g:=a.2.2.2.2.2.2.2.1+1) (by omega)
 have top: ∀i,0≤i→i<a.2.1.1→yF a i=false→f' i ((a.2.2.2.2.2.2.2.1+1).tmod 2)=ym (ye3 a.1 a.2.1 (a.2.2.2.2.2.2.2.1+1) a.2.2.2.2.2.2.1 a.2.2.2.1 a.2.2.2.2.1 i):=fun i i0 i1 hi=>by
  have h1:=hc i ((a.2.2.2.2.2.2.2.1+1).tmod 2) i0 (by rw[ht.g]; exact i1) hsl.1;have hmem:=hm.k.2 i i0 i1;obtain⟨x1,x2⟩:=hx i i0 i1;have hi':(yi a i).2.2.1=false:=hi
  have e:yi (yD a) i=yE (yeo ((a.2.2.2.2.2.2.2.1+1).tmod 2) (ym (ye3 a.1 a.2.1 (a.2.2.2.2.2.2.2.1+1) a.2.2.2.2.2.2.1 a.2.2.2.1 a.2.2.2.2.1 i)) (yi a i)):=by
   rw[y2M hu i0 (by omega)];show yE (yeo ((i64.wrap (a.2.2.2.2.2.2.2.1+1)).tmod 2) (ym (ye3 a.1 a.2.1 (i64.wrap (a.2.2.2.2.2.2.2.1+1)) a.2.2.2.2.2.2.1 a.2.2.2.1 a.2.2.2.2.1 i)) (yi a i))=_;rw[hw]
  rw[e]at h1;rw[yu4 (ypt hmem) ((yGE _ _ _).trans hi') hsl.1 h1];have hcw:=yq4 (n:=(a.2.2.2.2.2.2.2.1+1).tmod 2) hmem hi' (zj4.2 (by omega)) (yMr (ye3 a.1 a.2.1 (a.2.2.2.2.2.2.2.1+1) a.2.2.2.2.2.2.1 a.2.2.2.1 a.2.2.2.2.1 i)) x2;unfold yeo;rw[hi',cond_false,yn6 hcw,beq_self_eq_true]; rfl
 rw[hw]at ht;obtain⟨f,hf,hff⟩:=ht.c f' hc
 have own: ∀i,0≤i→i<a.2.1.1→fl i=false→yfX a.1 (f' i):=fun i i0 i1 hi =>
  ⟨(a.2.2.2.2.2.2.2.1+1).tmod 2,_,yW6 (by omega),by rw[top i i0 i1 (yDY hal i0 i1 hi)]; exact yyp (yU8 hm i0 i1)⟩
 have nef: ∀i,0≤i→i<a.2.1.1→i≠Lf→fl i=false:=fun i i0 i1 hne=>y5Z hal hb i0 i1 hne
 have two: ∃i,0≤i∧i<a.2.1.1∧i≠Lf:=by
  by_cases h:Lf=0
  ·exact⟨1,by omega,by omega,by omega⟩
  ·exact⟨0,by omega,by omega,fun e=>h e.symm⟩
 have dat:Wdat a.2.1 a.2.2.2.2.2.2.1 Q R V Lf a.2.2.2.2.1 f' fl (yJ (yD a)) :=
  yfa (new f hf) (fun i n i0 i1 hi h2=> .inl (by
   rcases hff i n i0 i1 (by omega)with h | ⟨h,_⟩
   ·exact⟨h,ht.b i n i0 i1 (by omega)⟩
   ·omega)) (fun i n i0 i1 hb=>ht.d i n i0 i1 hb)
 have mk: ∀Bf,((Lf=a.2.2.2.1∧Bf=a.2.2.2.2.1∧(Lf= -1∨(fl Lf=false∧yfX a.1 (f' Lf))))∨(0≤Lf∧Lf<a.2.1.1∧ ¬(fl Lf=false∧yfX a.1 (f' Lf))∧(a.2.2.2.1= -1∨a.2.2.2.1=Lf)∧Bf=0))→Wsup a.1 a.2.1 (a.2.2.2.2.2.2.2.1+1) a.2.2.2.2.2.2.1 a.2.2.2.1 a.2.2.2.2.1 Lf Bf f' fl:=fun Bf h4=>by
  refine⟨fun i i0 i1=>yU8 hm i0 i1,fun i n s i0 i1 hi hn2 hsv=> ?_,fun i i0 i1 hne=>⟨nef i i0 i1 hne,own i i0 i1 (nef i i0 i1 hne)⟩,?_,h4⟩
  ·have hi':=yDY hal i0 i1 hi
   by_cases hns:n=(a.2.2.2.2.2.2.2.1+1).tmod 2
   ·subst hns
    rw[top i i0 i1 hi']at hsv;have:=congrArg (fun x=>x.1) ((yyp (yU8 hm i0 i1)).1.symm.trans hsv.1);simp only at this;subst this;exact⟨rfl,.inr rfl⟩
   ·rcases hff i n i0 i1 (by omega)with h | ⟨h,_⟩
    ·rw[h]at hsv
     obtain⟨b1,b2⟩:=base f hf i n s i0 i1 hi' hn2 hsv;exact⟨b1,.inl (by omega)⟩
    ·exact absurd h hns
  ·obtain⟨i,i0,i1,hne⟩:=two
   exact⟨i,i0,i1,nef i i0 i1 hne,top i i0 i1 (yDY hal i0 i1 (nef i i0 i1 hne))⟩
 have hl:=hm.l;have ow2:Eq0 a fl Lf→Lf≠ -1→fl Lf=false→yfX a.1 (f' Lf):=fun h h5 h6=>own Lf (by have:=h.1; omega) (by have:=h.1; omega) h6
 rcases hal with⟨h1,h2⟩ | ⟨h1,h2,h3,h4⟩
 ·by_cases hne:Lf= -1
  ·exact⟨_,⟨fun _=>rfl,ow2⟩,mk _ (.inl ⟨h1,rfl,.inl hne⟩),dat⟩
  ·rcases Bool.eq_false_or_eq_true (fl Lf)with hf0 | hf0
   ·refine⟨0,⟨fun h=> ?_,ow2⟩,mk 0 (.inr ⟨by omega,by omega,(fun h=>by have:=h.1; rw[hf0]at this; cases this),.inr h1.symm,rfl⟩),yZC dat hm.b.1⟩
    rw[h.2 Lf (by omega) (by omega),h1]at hf0;exact(hz (by omega) hf0).symm
   ·exact⟨_,⟨fun _=>rfl,ow2⟩,mk _ (.inl ⟨h1,rfl,.inr ⟨hf0,own Lf (by omega) (by omega) hf0⟩⟩),dat⟩
 ·have ht:fl Lf=true:=by rw[h4 Lf h1 h2,beq_self_eq_true,Bool.or_true]
  refine⟨0,⟨fun h=> ?_,ow2⟩,mk 0 (.inr ⟨h1,h2,fun h=> ?_,h3,rfl⟩),yZC dat hm.b.1⟩
  ·rw[h.2 Lf h1 h2,h.1]at ht
   exact(hz (by have:=h.1; omega) ht).symm
  ·have:=h.1
   rw[ht]at this; cases this
def yP5 (R:Int→Int×List Int) (B0:Int) (V:Int→Int→Int) (a:dA):Prop:=B0≤a.2.2.2.2.1∧ ∀f fl Lf,Ch a f→Al a.2.2.2.1 a.2.1.1 (yF a) fl Lf→ ∃Bf,((Eq0 a fl Lf→Bf=B0)∧(Eq0 a fl Lf→Lf≠ -1→fl Lf=false→yfX a.1 (f Lf)))∧Wsup a.1 a.2.1 a.2.2.2.2.2.2.2.1 a.2.2.2.2.2.2.1 a.2.2.2.1 B0 Lf Bf f fl∧Wdat a.2.1 a.2.2.2.2.2.2.1 a.2.2.2.2.2.1 R V Lf Bf f fl (yJ a)
def Rob (B0:Int) (V:Int→Int→Int) (a:dA):Prop:= ∃R,yP5 R B0 V a
def Dd (K:Int) (VS:(Int→Int→Int)→Prop) (r:dA):Prop:= ∀f fl Lf,Ch r f→Al r.2.2.2.1 r.2.1.1 (yF r) fl Lf→ ∃V,VS V∧WW K r.1 r.2.1 V Lf f fl (yJ r)
theorem ymh {K J:Int} {VS WS:(Int→Int→Int)→Prop} {r:dA} (h:Dd K VS r) (hj:K≤J) (hv: ∀V,VS V→WS V):Dd J WS r:=fun f fl Lf hf hal=>by
 obtain⟨V,h1,h2⟩:=h f fl Lf hf hal;exact⟨V,hv V h1,y3X h2 hj⟩
structure Nb (a:dA):Prop where
 n:a.2.2.2.1≠ -1→ ∀i s,0≤i→i<a.2.1.1→i≠a.2.2.2.1→0≤s→s<a.2.2.2.2.1→yJ a i (s+6)=false
 z:a.2.2.2.1≠ -1→yF a a.2.2.2.1=true→a.2.2.2.2.1=0
structure Lv (K:Int) (V:Int→Int→Int) (a:dA):Prop where
 x:Ix K V a
 r: ∃B0,Rob B0 V a
 n:Nb a
theorem ytg {K J:Int} {V:Int→Int→Int} {a:dA} (h:Lv K V a) (hj:K≤J):Lv J V a:=⟨yYa h.x hj,h.r,h.n⟩
theorem y4g {K:Int} {V:Int→Int→Int} {a:dA} (h:Ix K V a) {i:Int} (i0:0≤i) (i1:i<a.2.1.1) (hf:yF a i=true):i=a.2.2.2.1:=by
 rcases(yeS h.xk i0 i1).2.2 hf with e | e
 ·exact e
 ·rw[h.xb]at e; cases e
theorem y4h {K:Int} {V:Int→Int→Int} {a:dA} (h:Ix K V a) {i:Int} (i0:0≤i) (i1:i<a.2.1.1):2≤(yi a i).1.length∧(yi a i).2.1.length<60:=by
 have hg:=yl.1 h.xc.1;have h1:=(yeS h.xk i0 i1).2.1;have h2:=h.xn i i0 i1;have c:=h.xc;unfold yU at c;have h3:(bif i==a.2.2.2.1 then a.2.2.2.2.1 else 0)≤8:=by cases(i==a.2.2.2.1)<;>simp only[cond_true,cond_false]<;>omega
 omega
theorem yMN {a:dA} {f:Int→Int→List Int} (h:yyr a) (hf:Ch (ye a) f):Ch a f:=fun i n i0 i1 n0=>by
 have hg:(ye a).2.1=a.2.1:=yag (yaL a);have h1:=hf i n i0 (by rw[hg]; exact i1) n0;cases hd:ya a
 ·rcases yUi (yTf hd) i0 with e | e
  ·rw[e]at h1; exact h1
  ·rw[e]at h1
   rcases(yZ7 (-1) [] (h.2 i i0 i1)).1 n _ n0 h1 with h2 | h2
   ·exact h2
   ·omega
 ·rw[ytm hd]at h1; exact h1
theorem yW9 {K T Lf Bf:Int} {R:Int→Int×List Int} {V:Int→Int→Int} {b:dA} {f:Int→Int→List Int} {fl:Int→Bool} (hix:Ix K V b) (hu:ya (ye b)=false) (hf:Ch (ye b) f) (hfl: ∀i,0≤i→i<b.2.1.1→fl i=false→yF b i=false) (hL:Lf=b.2.2.2.1∨b.2.2.2.1= -1)
  (old:Wdat b.2.1 T b.2.2.2.2.2.1 R V Lf Bf f fl (yJ b)):Wdat b.2.1 b.2.2.2.2.2.1 b.2.2.2.2.2.1 R V Lf b.2.2.2.2.1 f fl (yJ (ye b)):=by
 have ok:=ybT hix.xk;have ts:=yJh (-1) (fun _=> []) ok;have hlen:=ok.1;have q:=old.q;refine⟨old.e,by omega,fun i s i0 i1 s0 s1 hi hl hb _=> ?_,fun q q0 q1=>by omega,fun i n r i0 i1 hi h2 h6 hr=> ?_,fun q q0 q1=>by omega,fun q q0 q1=>by omega,fun i n i0 i1 hi hn=>old.b i n i0 i1 hi (ts.d i n i0 i1 hn)⟩
 ·have hfi:(yi b i).2.2.1=false:=hfl i i0 i1 hi
  have hp:=hf i (s+6) i0 (by rw[ts.g]; exact i1) (by omega);rw[yJd hu i0 (by omega)]at hp;rw[yu4 (ok.2 i i0 i1) hfi (by omega) hp];refine hix.xv i s i0 i1 s0 s1 ?_;have hb2:ya3 (yi b i) (s+6)=false:=by rw[← hb]; exact(ts.b i (s+6) i0 i1 (by omega)).symm
  unfold yaF yak;rw[hfi,hb2]
  have:(i !=b.2.2.2.1||ltb s b.2.2.2.2.1)=true:=by
   rw[Bool.or_eq_true,bne_iff_ne,zj8];rcases hL with e | e<;>omega
  rw[this]; rfl
 ·obtain⟨h1,h3⟩:=old.h i n r i0 i1 hi h2 h6 hr
  exact⟨h1,fun h=>by omega⟩
theorem y3M {K:Int} {V:Int→Int→Int} {b:dA} (h:Ix K V b) (hk:K<60000):Mk (yV (ye b)):=by
 have hc:=yaL b;have hk2:=yk0 h.xk;have:=h.xg;have e:=ysh hc
 have hx:yU (yV (ye b)):=by
  have c:=yC2 hc h.xc;obtain⟨c1,c2,c3,c4,c5,c6,c7,c8,c9,c10,c11⟩:=c;refine⟨c1,c2,c3,c4,c5,c6,⟨?_,?_⟩,⟨Int.le_refl _,c8.2⟩,?_,c10,c11⟩
  ·show 0≤(ye b).2.2.2.2.2.1; omega
  ·show(ye b).2.2.2.2.2.1≤60000; omega
  ·show(ye b).2.2.2.2.2.1≤(ye b).2.2.2.2.2.1+4; omega
 exact y3L hx hk2 (by show(ye b).2.2.2.2.2.2.2.1<60000; omega)
structure CoreEq (a b:dA):Prop where
 i:a.1=b.1
 g:a.2.1=b.2.1
 l:a.2.2.2.1=b.2.2.2.1
 u:a.2.2.2.2.1=b.2.2.2.2.1
 s:a.2.2.2.2.2.1=b.2.2.2.2.2.1
 t:a.2.2.2.2.2.2.1=b.2.2.2.2.2.2.1
 e:a.2.2.2.2.2.2.2.1=b.2.2.2.2.2.2.2.1
theorem ybq {a b:dA} (h:yz a=yz b):CoreEq a b:=⟨y54 h,yag h,yn5 h,yja h,yfZ h,yX0 h,ysh h⟩
theorem yUk {K T L B Lf:Int} {R:Int→Int×List Int} {V:Int→Int→Int} {b:dA} {f':Int→Int→List Int} {fl:Int→Bool} (hix:Ix K V b) (hk:K<60000) (hc:Ch (yq b) f') (hfl: ∀i,0≤i→i<b.2.1.1→fl i=false→yF b i=false) (hL:Lf=b.2.2.2.1∨(b.2.2.2.1= -1∧0≤Lf∧Lf<b.2.1.1∧fl Lf=true))
  (old: ∀f,Ch b f→ ∃Bf,Wsup b.1 b.2.1 b.2.2.2.2.2.2.2.1 T L B Lf Bf f fl∧Wdat b.2.1 T b.2.2.2.2.2.1 R V Lf Bf f fl (yJ b)):WW (K+1) b.1 b.2.1 V Lf f' fl (yJ (yq b)):=by
 have ok:=ybT hix.xk;have hg:=hix.xg;have hs:=hix.xs;have ts:=yJh (-1) (fun _=> []) ok
 have sy: ∀f,Ch (ye b) f→ ∃Bf,Wsup b.1 b.2.1 b.2.2.2.2.2.2.2.1 T L B Lf Bf f fl∧Wdat b.2.1 T b.2.2.2.2.2.1 R V Lf Bf f fl (yJ (ye b)):=fun f hf=>by
  obtain⟨Bf,h1,h2⟩:=old f (yMN ok hf);exact⟨Bf,h1,yfa h2 (fun i n i0 i1 hi hn=> .inl ⟨rfl,ts.b i n i0 i1 (by omega)⟩) (fun i n i0 i1 h=>ts.d i n i0 i1 h)⟩
 have ce:=ybq (yaL b);cases hu:ya (ye b)
 ·have e:yq b=yD (yV (ye b)):=by unfold yq; rw[hu]; rfl
  rw[e]at hc ⊢;have hm:=y3M hix hk;obtain⟨c1,c2,c3,c4,c5,c6,c7⟩:=ce;have hC: ∀f,Ch (yV (ye b)) f→Ch (ye b) f:=fun f hf=>hf
  have d0: ∀f,Ch (ye b) f→Wdat b.2.1 b.2.2.2.2.2.1 b.2.2.2.2.2.1 R V Lf b.2.2.2.2.1 f fl (yJ (ye b)):=fun f hf=>by
   obtain⟨Bf,h1,h2⟩:=old f (yMN ok hf);exact yW9 hix hu hf hfl (hL.imp id (fun h=>h.1)) h2
  have hT:=yZ1 (a:=yV (ye b)) (T:=T) (L:=L) (B:=B) (Q:=b.2.2.2.2.2.1) (Lf:=Lf) (Lf2:=Lf) (R:=R) (V:=V) (fl:=fl) hm hc (fun i i0 i1 hi=>by
    have i1':i<b.2.1.1:=by rw[← c2]; exact i1
    exact(ts.f i i0 i1').trans (hfl i i0 i1' hi)) (fun f hf=>by
    show ∃Bf,Wsup (ye b).1 (ye b).2.1 (ye b).2.2.2.2.2.2.2.1 T L B Lf Bf f fl∧Wdat (ye b).2.1 T b.2.2.2.2.2.1 R V Lf Bf f fl (yJ (ye b))
    rw[c1,c2,c7]; exact sy f hf) (fun f hf=>by
    show Wdat (ye b).2.1 (ye b).2.2.2.2.2.1 b.2.2.2.2.2.1 R V Lf (ye b).2.2.2.2.1 f fl (yJ (ye b))
    rw[c2,c4,c5]; exact d0 f hf) (fun f hf i i0 i1 hne=>by
    obtain⟨Bf,h1,_⟩:=sy f hf;have i1':i<b.2.1.1:=by rw[← c2]; exact i1
    show fl i=false∧yfX (ye b).1 (f i)
    rw[c1]; exact h1.u2 i i0 i1' hne) (by
    show Lf=(ye b).2.2.2.1∨((ye b).2.2.2.1= -1∧0≤Lf∧Lf<(ye b).2.1.1∧fl Lf=true)
    rw[c2,c3]; exact hL)
  have hT:(∃Bf,Wsup (ye b).1 (ye b).2.1 (ye b).2.2.2.2.2.2.2.1 T L B Lf Bf f' fl∧Wdat (ye b).2.1 T b.2.2.2.2.2.1 R V Lf Bf f' fl (yJ (yD (yV (ye b))))) ∨
   ∃Bf,Wsup (ye b).1 (ye b).2.1 ((ye b).2.2.2.2.2.2.2.1+1) (ye b).2.2.2.2.2.1 (ye b).2.2.2.1 (ye b).2.2.2.2.1 Lf Bf f' fl∧Wdat (ye b).2.1 (ye b).2.2.2.2.2.1 b.2.2.2.2.2.1 R V Lf Bf f' fl (yJ (yD (yV (ye b)))):=hT
  rw[c1,c2,c7]at hT;rcases hT with⟨Bf,h1,h2⟩ | ⟨Bf,h1,h2⟩
  ·exact⟨_,_,_,_,_,_,Bf,by omega,by omega,h1,h2⟩
  ·exact⟨_,_,_,_,_,_,Bf,by omega,by omega,h1,h2⟩
 ·have e:yq b=ye b:=by unfold yq; rw[hu]; rfl
  rw[e]at hc ⊢;obtain⟨Bf,h1,h2⟩:=sy f' hc;exact⟨_,_,_,_,_,_,Bf,by omega,by omega,h1,h2⟩
theorem yyO {b:dA} (hk:yI b) {i m:Int} (i0:0≤i) (i1:i<b.2.1.1) (m0:2≤m):yJ (yq b) i m=yJ b i m∧yF (yq b) i=yF b i:=by
 have ts:=yJh (-1) (fun _=> []) (ybT hk);have hc:=yag (yaL b);have h1:yJ (ye b) i m=yJ b i m:=ts.b i m i0 i1 (by omega);have h2:=ts.f i i0 i1;unfold yq;cases ya (ye b)
 ·have ok2:yyr (yV (ye b)):=ybT (a:=yV (ye b)) (yk0 hk)
  have tm:=yJg ok2;have i1':i<(yV (ye b)).2.1.1:=by show i<(ye b).2.1.1; rw[hc]; exact i1
  have hg:0≤(i64.wrap ((yV (ye b)).2.2.2.2.2.2.2.1+1)).tmod 2∨(i64.wrap ((yV (ye b)).2.2.2.2.2.2.2.1+1)).tmod 2<2:=by omega
  have hlt:(i64.wrap ((yV (ye b)).2.2.2.2.2.2.2.1+1)).tmod 2<2:=by
   have:=Int.tmod_lt_of_pos (i64.wrap ((yV (ye b)).2.2.2.2.2.2.2.1+1)) (show(0:Int)<2 by omega);exact this
  exact⟨(tm.b i m i0 i1' (by omega)).trans h1,(tm.f i i0 i1').trans h2⟩
 ·exact⟨h1,h2⟩
theorem y34 {K T L B Lf:Int} {R:Int→Int×List Int} {V:Int→Int→Int} {b:dA} {f':Int→Int→List Int} {fl:Int→Bool} (hix:Ix K V b) (hz:b.2.2.2.1≠ -1→yF b b.2.2.2.1=true→b.2.2.2.2.1=0) (hk:K<60000) (hu:ya (yq b)=false) (hc:Ch (yq b) f') (hal:Al b.2.2.2.1 b.2.1.1 (yF b) fl Lf)
  (old: ∀f,Ch b f→ ∃Bf,Wsup b.1 b.2.1 b.2.2.2.2.2.2.2.1 T L B b.2.2.2.1 Bf f (yF b)∧Wdat b.2.1 T b.2.2.2.2.2.1 R V b.2.2.2.1 Bf f (yF b) (yJ b)) :
  ∃Bf,((Eq0 b fl Lf→Bf=b.2.2.2.2.1)∧(Eq0 b fl Lf→Lf≠ -1→fl Lf=false→yfX b.1 (f' Lf)))∧Wsup b.1 b.2.1 (b.2.2.2.2.2.2.2.1+1) b.2.2.2.2.2.1 b.2.2.2.1 b.2.2.2.2.1 Lf Bf f' fl∧Wdat b.2.1 b.2.2.2.2.2.1 b.2.2.2.2.2.1 R V Lf Bf f' fl (yJ (yq b)):=by
 have ok:=ybT hix.xk;have ts:=yJh (-1) (fun _=> []) ok;have ce:=ybq (yaL b);obtain⟨hs,e⟩:=yIG hu;rw[e]at hu hc ⊢;have hm:=y3M hix hk;have six:=yZY (y3F hix hs);obtain⟨c1,c2,c3,c4,c5,c6,c7⟩:=ce;have hfe: ∀i,0≤i→i<b.2.1.1→yF (ye b) i=yF b i:=ts.f
 have d0: ∀f,Ch (ye b) f→Wdat b.2.1 b.2.2.2.2.2.1 b.2.2.2.2.2.1 R V Lf b.2.2.2.2.1 f fl (yJ (ye b)):=fun f hf=>by
  obtain⟨Bf,_,h2⟩:=old f (yMN ok hf);have hLf:Lf=b.2.2.2.1∨b.2.2.2.1= -1:=by rcases hal with⟨h,_⟩ | ⟨_,_,h,_⟩<;>omega
  have sub:=fun i i0 i1 hi=>yDY hal (i:=i) i0 i1 hi
  have w0:=yW9 (fl:=yF b) (Lf:=b.2.2.2.1) hix hs hf (fun i _ _ h=>h) (.inl rfl) h2;have q:=w0.q;refine⟨w0.e,w0.q,fun i s i0 i1 s0 s1 hi hl hb hj=> ?_,fun q q0 q1=>by omega,fun i n r i0 i1 hi h2 h6 hr=>w0.h i n r i0 i1 (sub i i0 i1 hi) h2 h6 hr,fun q q0 q1=>by omega,fun q q0 q1=>by omega,fun i n i0 i1 hi hn=>w0.b i n i0 i1 (sub i i0 i1 hi) hn⟩;exact w0.d i s i0 i1 s0 s1 (sub i i0 i1 hi) (by omega) hb hj
 have hD:=yZ0 (a:=yV (ye b)) (Q:=b.2.2.2.2.2.1) (Lf:=Lf) (R:=R) (V:=V) (fl:=fl) hm hu (fun i i0 i1=>y4h six i0 i1) (fun i i0 i1 hf=>y4g six i0 i1 hf) hc (by
   show Al (ye b).2.2.2.1 (ye b).2.1.1 (yF (ye b)) fl Lf
   rw[c2,c3]; exact yyw hal (fun i i0 i1=>(hfe i i0 i1).symm)) (fun f hf i n s i0 i1 hi hn2 hsv=>by
   have i1':i<b.2.1.1:=by rw[← c2]; exact i1
   obtain⟨Bf,h1,_⟩:=old f (yMN ok hf);have hsv:yxg (ye b).1 n (f i n) s:=hsv;rw[c1]at hsv;obtain⟨g1,g2⟩:=h1.u1 i n s i0 i1' ((hfe i i0 i1').symm.trans hi) hn2 hsv;refine⟨g1,?_⟩;show s.2.1≤(ye b).2.2.2.2.2.2.2.1;rw[c7];rcases g2 with g2 | g2
   ·omega
   ·rw[g2]; exact Int.le_refl _) (fun f hf=>by
   show Wdat (ye b).2.1 (ye b).2.2.2.2.2.1 b.2.2.2.2.2.1 R V Lf (ye b).2.2.2.2.1 f fl (yJ (ye b))
   rw[c2,c4,c5]; exact d0 f hf) (by
   show(ye b).2.2.2.1≠ -1→yF (ye b) (ye b).2.2.2.1=true→(ye b).2.2.2.2.1=0;rw[c3,c4];intro h1 h2;have hl:=hix.xc.2.2.2.1;rw[hfe _ (by omega) (by omega)]at h2
   exact hz h1 h2)
 have hD: ∃Bf,((Eq0 (ye b) fl Lf→Bf=(ye b).2.2.2.2.1)∧(Eq0 (ye b) fl Lf→Lf≠ -1→fl Lf=false→yfX (ye b).1 (f' Lf)))∧Wsup (ye b).1 (ye b).2.1 ((ye b).2.2.2.2.2.2.2.1+1) (ye b).2.2.2.2.2.1 (ye b).2.2.2.1 (ye b).2.2.2.2.1 Lf Bf f' fl∧Wdat (ye b).2.1 (ye b).2.2.2.2.2.1 b.2.2.2.2.2.1 R V Lf Bf f' fl (yJ (yD (yV (ye b)))):=hD;have he:Eq0 b fl Lf→Eq0 (ye b) fl Lf:=fun h=>⟨by rw[c3]; exact h.1,fun i i0 i1=>by rw[c2]at i1; exact(h.2 i i0 i1).trans (hfe i i0 i1).symm⟩
 rw[c1,c2,c3,c4,c5,c7]at hD;obtain⟨Bf,⟨h1,h2⟩,h3⟩:=hD;exact⟨Bf,⟨fun h=>h1 (he h),fun h=>h2 (he h)⟩,h3⟩
theorem y3R {B0:Int} {V:Int→Int→Int} {a:dA} {R:Int→Int×List Int} (h:yP5 R B0 V a) {fl:Int→Bool} {Lf:Int} (hal:Al a.2.2.2.1 a.2.1.1 (yF a) fl Lf) :
  ∀f,Ch a f→ ∃Bf,Wsup a.1 a.2.1 a.2.2.2.2.2.2.2.1 a.2.2.2.2.2.2.1 a.2.2.2.1 B0 Lf Bf f fl∧Wdat a.2.1 a.2.2.2.2.2.2.1 a.2.2.2.2.2.1 R V Lf Bf f fl (yJ a):=fun f hf=>by
 obtain⟨Bf,_,h1,h2⟩:=h.2 f fl Lf hf hal;exact⟨Bf,h1,h2⟩
theorem yML (a:dA):Al a.2.2.2.1 a.2.1.1 (yF a) (yF a) a.2.2.2.1:= .inl ⟨rfl,fun _ _ _=>rfl⟩
theorem y6o {L N Lf:Int} {fl0 fl:Int→Bool} (h:Al L N fl0 fl Lf):Lf=L∨(L= -1∧0≤Lf∧Lf<N∧fl Lf=true):=by
 rcases h with⟨h,_⟩ | ⟨h1,h2,h3,h4⟩
 ·exact .inl h
 ·rcases h3 with h3 | h3
  ·exact .inr ⟨h3,h1,h2,by rw[h4 Lf h1 h2,beq_self_eq_true,Bool.or_true]⟩
  ·exact .inl h3.symm
theorem yCN (b:dA):(yq b).1=b.1∧(yq b).2.1=b.2.1∧(yq b).2.2.2.1=b.2.2.2.1∧(yq b).2.2.2.2.1=b.2.2.2.2.1∧(yq b).2.2.2.2.2.1=b.2.2.2.2.2.1:=by
 obtain⟨c1,c2,c3,c4,c5,_,_⟩:=ybq (yaL b);unfold yq;cases ya (ye b)
 ·obtain⟨d1,d2,d3,d4,d5,_,_⟩:=ybq (yjd (yV (ye b)))
  exact⟨d1.trans c1,d2.trans c2,d3.trans c3,d4.trans c4,d5.trans c5⟩
 ·exact⟨c1,c2,c3,c4,c5⟩
theorem yZJ {b:dA} (hg:0≤b.2.2.2.2.2.2.2.1∧b.2.2.2.2.2.2.2.1<60000) (hu:ya (yq b)=false):(yq b).2.2.2.2.2.2.1=b.2.2.2.2.2.1∧(yq b).2.2.2.2.2.2.2.1=b.2.2.2.2.2.2.2.1+1:=by
 obtain⟨c1,c2,c3,c4,c5,c6,c7⟩:=ybq (yaL b);obtain⟨_,e⟩:=yIG hu;obtain⟨d1,d2,d3,d4,d5,d6,d7⟩:=ybq (yjd (yV (ye b)));rw[e];refine⟨d6.trans c5,d7.trans ?_⟩;show i64.wrap ((ye b).2.2.2.2.2.2.2.1+1)=_;rw[c7]; exact wr (by omega) (by omega)
theorem y4n {a r:dA} (h:Nb a) (hg:r.2.1=a.2.1) (hl:r.2.2.2.1=a.2.2.2.1) (hb:r.2.2.2.2.1=a.2.2.2.2.1) (hlr: -1≤a.2.2.2.1∧a.2.2.2.1≤a.2.1.1-1) (hd: ∀i m,0≤i→i<a.2.1.1→6≤m→yJ r i m=true→yJ a i m=true) (hf: ∀i,0≤i→i<a.2.1.1→yF r i=yF a i):Nb r:=by
 refine⟨fun h1 i s i0 i1 hi s0 s1=> ?_,fun h1 h2=> ?_⟩
 ·rw[hl]at h1 hi
  rw[hg]at i1;rw[hb]at s1;cases hx:yJ r i (s+6)
  ·rfl
  ·rw[← h.n h1 i s i0 i1 hi s0 s1]; exact(hd i (s+6) i0 i1 (by omega) hx).symm
 ·rw[hl]at h1 h2
  rw[hb];rw[hf _ (by omega) (by omega)]at h2;exact h.z h1 h2
theorem yZI {K T L B:Int} {R:Int→Int×List Int} {V:Int→Int→Int} {b:dA} (hix:Ix K V b) (hz:b.2.2.2.1≠ -1→yF b b.2.2.2.1=true→b.2.2.2.2.1=0) (hk:K+1≤60000) (hu:ya (yq b)=false)
  (old: ∀f,Ch b f→ ∃Bf,Wsup b.1 b.2.1 b.2.2.2.2.2.2.2.1 T L B b.2.2.2.1 Bf f (yF b)∧Wdat b.2.1 T b.2.2.2.2.2.1 R V b.2.2.2.1 Bf f (yF b) (yJ b)):yP5 R (yq b).2.2.2.2.1 V (yq b):=by
 have c:=hix.xc;unfold yU at c;obtain⟨s1,s2,s3,s4,s5⟩:=yCN b;have hg:=hix.xg;have hfl: ∀i,0≤i→i<b.2.1.1→yF (yq b) i=yF b i:=fun i i0 i1=>(yyO (m:=2) hix.xk i0 i1 (by omega)).2
 obtain⟨t1,t2⟩:=yZJ (b:=b) (by omega) hu;refine⟨Int.le_refl _,fun f fl Lf hf hal=> ?_⟩;rw[s2,s3]at hal;have hal2:=yyw hal hfl;obtain⟨Bf,⟨h1,h2⟩,h3⟩:=y34 hix hz (by omega) hu hf hal2 old;have he:Eq0 (yq b) fl Lf→Eq0 b fl Lf:=fun e=>⟨e.1.trans s3,fun i i0 i1=>(e.2 i i0 (by rw[s2]; exact i1)).trans (hfl i i0 i1)⟩
 rw[s1,s2,s3,s4,s5,t1,t2];exact⟨Bf,⟨fun e=>h1 (he e),fun e=>h2 (he e)⟩,h3⟩
theorem y2G {K:Int} {V:Int→Int→Int} {a:dA} (h:Lv K V a) (hk:K+1≤60000) :
  (ya (yq a)=false→Lv (K+1) V (yq a))∧(ya (yq a)=true→Dd (K+1) (· =V) (yq a)):=by
 obtain⟨B0,R,hr⟩:=h.r;have c:=h.x.xc;unfold yU at c;obtain⟨s1,s2,s3,s4,s5⟩:=yCN a;have hfl: ∀i,0≤i→i<a.2.1.1→yF (yq a) i=yF a i:=fun i i0 i1=>(yyO (m:=2) h.x.xk i0 i1 (by omega)).2
 have hg:=h.x.xg;refine⟨fun hu=>⟨yRf h.x hk hu,⟨_,R,yZI h.x h.n.z hk hu (y3R hr (yML a))⟩,?_⟩,fun hd f fl Lf hf hal=>⟨V,rfl,?_⟩⟩
 ·exact y4n h.n s2 s3 s4 (by omega) (fun i m i0 i1 m0 hb=>by rw[(yyO h.x.xk i0 i1 (by omega)).1]at hb; exact hb) hfl
 ·rw[s2,s3]at hal
  have hal2:=yyw hal hfl;have:=yUk h.x (by omega) hf (fun i i0 i1 hi=>yDY hal2 i0 i1 hi) (y6o hal2) (y3R hr hal2);rw[s1,s2]; exact this
theorem y5z {K:Int} {V:Int→Int→Int} {a:dA} {l:List dW} (h:Lv K V a) (hd:yaY a.2.1 l=true):Lv K V (yym a l):=⟨yPB h.x hd,h.r,⟨h.n.n,h.n.z⟩⟩
theorem y6y {K:Int} {V:Int→Int→Int} {a:dA} {b n:Int} (h:Lv K V a) (hb:ye7 a.2.1 b=true) (hn:isW n=true):Lv K V (yrg a b n).2:=by
 have hi:=y6v h.x hb hn;unfold yrg at hi ⊢;cases hs:(ybR a (yY a.2.1 b)).2
 ·exact h
 ·rw[hs]at hi
  exact⟨hi,h.r,⟨h.n.n,h.n.z⟩⟩
theorem y44 (r:dN):yaz (yac r)=true:=by
 unfold yac;cases h:yX r
 ·rfl
 ·have hr:=yti.1 h
  refine yzE.2 ⟨?_,fun x hx=> ?_⟩
  ·show(21322::r.1::r.2.1::(r.2.2.length:Int)::r.2.2).length≤12
   simp only[List.length_cons]; omega
  ·have hx:x∈21322::r.1::r.2.1::(r.2.2.length:Int)::r.2.2:=hx
   simp only[List.mem_cons]at hx;rcases hx with hx | hx | hx | hx | hx
   ·omega
   ·omega
   ·omega
   ·omega
   ·exact ypu.1 (yC0.1 hr.2.2.2 x hx)
def Two (V W X:Int→Int→Int):Prop:=X=V∨X=W
theorem yQi (a:dA):(yw a).1=a.1∧(yw a).2.1=a.2.1∧(yw a).2.2.2.1=a.2.2.2.1∧(yw a).2.2.2.2.1=a.2.2.2.2.1∧(yw a).2.2.2.2.2.1=a.2.2.2.2.2.1:=by
 unfold yw;cases leb 4 (i64.wrap (a.2.2.2.2.2.1-a.2.2.2.2.2.2.1))
 ·exact⟨rfl,rfl,rfl,rfl,rfl⟩
 ·exact yCN a
theorem y6x {K:Int} {V:Int→Int→Int} {a:dA} (h:Lv K V a) (hk:K+1≤60000) :
  (ya (yw a)=false→Lv (K+1) V (yw a))∧(ya (yw a)=true→Dd (K+1) (· =V) (yw a)):=by
 unfold yw;cases leb 4 (i64.wrap (a.2.2.2.2.2.1-a.2.2.2.2.2.2.1))
 ·exact⟨fun _=>ytg h (by omega),fun hd=>by rw[cond_false,h.x.xu]at hd; cases hd⟩
 ·exact y2G h hk
theorem y53 {b:dA} (hk:yI b) {i m:Int} (i0:0≤i) (i1:i<b.2.1.1) (m0:2≤m):yJ (yw b) i m=yJ b i m∧yF (yw b) i=yF b i:=by
 unfold yw;cases leb 4 (i64.wrap (b.2.2.2.2.2.1-b.2.2.2.2.2.2.1))
 ·exact⟨rfl,rfl⟩
 ·exact yyO hk i0 i1 m0
theorem y5F {K s:Int} {d:List Int} {V:Int→Int→Int} {a:dA} (h:Lv K V a) (h3:a.2.2.2.2.2.1-a.2.2.2.2.2.2.1≤3) (hq:a.2.2.2.2.2.1<60000) (hs:yN a.2.1 s=true) (hl:(d.length:Int)=a.2.1.1-1) (hd:d.all isW=true):Dd (K+1) (Two V (ycV V a.2.1 s d)) (yp a (a.2.2.2.2.2.1,s,d)):=by
 obtain⟨B0,R,hB,hr⟩:=h.r;have ok:=ybT h.x.xk;have hg:=h.x.xg;have hs2:=h.x.xs;have ht:=yMZ (a.2.2.2.2.2.1,s,d) ok;have c:=h.x.xc;unfold yU at c;have hsl:=ykU (q:=a.2.2.2.2.2.1) (by omega);obtain⟨c1,c2,c3,c4,c5,c6,c7⟩:=ybq (ya6 a (a.2.2.2.2.2.1,s,d));intro f' fl Lf hf hal;rw[c1,c2];rw[c2,c3]at hal;have hal2:=yyw hal ht.f;obtain⟨f,hf0,hff⟩:=ht.c f' hf;obtain⟨Bf,_,h1,h2⟩:=hr f fl Lf hf0 hal2
 have sup:Wsup a.1 a.2.1 a.2.2.2.2.2.2.2.1 a.2.2.2.2.2.2.1 a.2.2.2.1 B0 Lf Bf f' fl:=ygU h1 (fun i n i0 i1 _ hn=>by
  rcases hff i n i0 i1 (by omega)with e | ⟨e,_⟩
  ·exact e
  ·have:n=yh a.2.2.2.2.2.1:=e
   omega)
 have hb6: ∀i n,0≤i→i<a.2.1.1→6≤n→yJ (yp a (a.2.2.2.2.2.1,s,d)) i n=yJ a i n:=fun i n i0 i1 h6=>ht.b i n i0 i1 (fun e=>by have:n=yh a.2.2.2.2.2.1:=e; omega)
 have hf2: ∀i n,0≤i→i<a.2.1.1→fl i=false→2≤n→f' i n=f i n∨(n=yh a.2.2.2.2.2.1∧f' i n=yac (a.2.2.2.2.2.1,s,d)):=fun i n i0 i1 _ hn=>hff i n i0 i1 (by omega)
 by_cases hx: ∃i,0≤i∧i<a.2.1.1∧fl i=false∧f' i (yh a.2.2.2.2.2.1)=yac (a.2.2.2.2.2.1,s,d)
 ·exact⟨ycV V a.2.1 s d,.inr rfl,_,_,_,_,_,_,Bf,by omega,by omega,sup,y0c h2 (by omega) hq hs hl hd hf2 hb6 (fun i n i0 i1 hn=>ht.d i n i0 i1 hn) hx⟩
 ·refine⟨V,.inl rfl,_,_,_,_,_,_,Bf,by omega,by omega,sup,yfa h2 (fun i n i0 i1 hi hn=> .inl ?_) (fun i n i0 i1 hn=>ht.d i n i0 i1 hn)⟩
  have hb: ∀k,0≤k→k<6→yJ (yp a (a.2.2.2.2.2.1,s,d)) i k=yJ a i k:=fun k k0 k6=>by
   have g2:yJ a i k=false:=by
    cases hb:yJ a i k
    ·rfl
    ·have:=h2.b i k i0 i1 hi hb; omega
   cases hb:yJ (yp a (a.2.2.2.2.2.1,s,d)) i k
   ·exact g2.symm
   ·rw[ht.d i k i0 i1 hb]at g2; cases g2
  refine⟨?_,?_⟩
  ·rcases hf2 i n i0 i1 hi hn with e | ⟨e,e2⟩
   ·exact e
   ·exact absurd ⟨i,i0,i1,hi,by rw[← e]; exact e2⟩ hx
  ·by_cases h6:6≤n
   ·exact hb6 i n i0 i1 h6
   ·exact hb n (by omega) (by omega)
theorem y5E {K B0 s:Int} {d:List Int} {V:Int→Int→Int} {R:Int→Int×List Int} {a:dA} (h:Ix K V a) (hB:yP5 R B0 V a) (h3:a.2.2.2.2.2.1-a.2.2.2.2.2.2.1≤3) (hq:a.2.2.2.2.2.1<60000) (hs:yN a.2.1 s=true) (hl:(d.length:Int)=a.2.1.1-1) (hd:d.all isW=true) (hu:ya (yp a (a.2.2.2.2.2.1,s,d))=false):yP5 (yZA R a.2.2.2.2.2.1 s d) B0 (ycV V a.2.1 s d) (yC (yp a (a.2.2.2.2.2.1,s,d))):=by
 obtain⟨hB,hr⟩:=hB;have ok:=ybT h.xk;have ht:=yMZ (a.2.2.2.2.2.1,s,d) ok;have c:=h.xc;unfold yU at c;have hsl:=ykU (q:=a.2.2.2.2.2.1) (by omega);obtain⟨c1,c2,c3,c4,c5,c6,c7⟩:=ybq (ya6 a (a.2.2.2.2.2.1,s,d))
 have hsq:(yC (yp a (a.2.2.2.2.2.1,s,d))).2.2.2.2.2.1=a.2.2.2.2.2.1+1:=by
  show i64.wrap ((yp a (a.2.2.2.2.2.1,s,d)).2.2.2.2.2.1+1)=_;rw[c5]; exact wr (by omega) (by omega)
 refine⟨by show B0≤(yp a (a.2.2.2.2.2.1,s,d)).2.2.2.2.1; rw[c4]; exact hB,fun f' fl Lf hf hal=> ?_⟩;have hf:Ch (yp a (a.2.2.2.2.2.1,s,d)) f':=hf;have hal:Al (yp a (a.2.2.2.2.2.1,s,d)).2.2.2.1 (yp a (a.2.2.2.2.2.1,s,d)).2.1.1 (yF (yp a (a.2.2.2.2.2.1,s,d))) fl Lf:=hal;rw[c2,c3]at hal;have hal2:=yyw hal ht.f;obtain⟨f,hf0,hff⟩:=ht.c f' hf;obtain⟨Bf,⟨p1,p2⟩,h1,h2⟩:=hr f fl Lf hf0 hal2
 have hn01: ∀i n,0≤i→i<a.2.1.1→(n=0∨n=1)→f' i n=f i n:=fun i n i0 i1 hn=>by
  rcases hff i n i0 i1 (by omega)with e | ⟨e,_⟩
  ·exact e
  ·have:n=yh a.2.2.2.2.2.1:=e
   omega
 have sup:Wsup a.1 a.2.1 a.2.2.2.2.2.2.2.1 a.2.2.2.2.2.2.1 a.2.2.2.1 B0 Lf Bf f' fl:=ygU h1 (fun i n i0 i1 _ hn=>hn01 i n i0 i1 hn)
 have he:Eq0 (yC (yp a (a.2.2.2.2.2.1,s,d))) fl Lf→Eq0 a fl Lf:=fun e=>by
  have e1:Lf=(yp a (a.2.2.2.2.2.1,s,d)).2.2.2.1:=e.1;refine⟨e1.trans c3,fun i i0 i1=> ?_⟩;have:=e.2 i i0 (by show i<(yp a (a.2.2.2.2.2.1,s,d)).2.1.1; rw[c2]; exact i1);exact this.trans (ht.f i i0 i1)
 have hlen:=h.xk.1.2
 have two: ∃i,0≤i∧i<a.2.1.1∧i≠Lf:=by
  have hg3:=yl.1 h.xc.1;by_cases h:Lf=0
  ·exact⟨1,by omega,by omega,by omega⟩
  ·exact⟨0,by omega,by omega,fun e=>h e.symm⟩
 obtain⟨j,j0,j1,hj⟩:=two;have hjf:=(h1.u2 j j0 j1 hj).1
 have hx:f' j (yh a.2.2.2.2.2.1)=yac (a.2.2.2.2.2.1,s,d):=by
  have hp:=hf j (yh a.2.2.2.2.2.1) j0 (by rw[c2]; exact j1) (by omega);have hjd:(yi a j).2.2.1=false:=yDY hal2 j0 j1 hjf;rw[yMW hu j0 (by omega)]at hp;obtain⟨x1,x2⟩:=y4h h j0 j1;have dk:=yeS h.xk j0 j1;have hg3:=yl.1 h.xc.1;have hcw:=yq4 (n:=yh a.2.2.2.2.2.1) (s:=yac (a.2.2.2.2.2.1,s,d)) dk.1 hjd (zj4.2 (by omega)) (y44 _) x2;rw[yu4 (ypt dk.1) ((yGE _ _ _).trans hjd) (by show 0≤yh a.2.2.2.2.2.1; omega) hp];unfold yeo;rw[hjd,cond_false];show ycn (yZ (yi a j) (yh a.2.2.2.2.2.1) (yac (a.2.2.2.2.2.1,s,d))).1 _=_;rw[yn6 hcw,beq_self_eq_true]; rfl
 have dat:=y0c h2 (by omega) hq hs hl hd (fun i n i0 i1 _ hn=>hff i n i0 i1 (by omega)) (fun i n i0 i1 h6=>ht.b i n i0 i1 (fun e=>by have:n=yh a.2.2.2.2.2.1:=e; omega)) (fun i n i0 i1 hn=>ht.d i n i0 i1 hn) ⟨j,j0,j1,hjf,hx⟩;refine⟨Bf,⟨fun e=>p1 (he e),fun e e1 e2=> ?_⟩,?_,?_⟩
 ·have hown:=p2 (he e) e1 e2
  show yfX (yp a (a.2.2.2.2.2.1,s,d)).1 (f' Lf);rw[c1];obtain⟨n,s',hn,hsv⟩:=hown;have hr2:0≤Lf∧Lf<a.2.1.1:=by have:=(he e).1; omega
  exact⟨n,s',hn,by rw[hn01 Lf n hr2.1 hr2.2 hn]; exact hsv⟩
 ·show Wsup (yp a (a.2.2.2.2.2.1,s,d)).1 (yp a (a.2.2.2.2.2.1,s,d)).2.1 (yp a (a.2.2.2.2.2.1,s,d)).2.2.2.2.2.2.2.1 (yp a (a.2.2.2.2.2.1,s,d)).2.2.2.2.2.2.1 (yp a (a.2.2.2.2.2.1,s,d)).2.2.2.1 B0 Lf Bf f' fl
  rw[c1,c2,c3,c6,c7]; exact sup
 ·rw[hsq]
  show Wdat (yp a (a.2.2.2.2.2.1,s,d)).2.1 (yp a (a.2.2.2.2.2.1,s,d)).2.2.2.2.2.2.1 _ _ _ _ _ _ _ _;rw[c2,c6]; exact dat
theorem y5G {B0 q s:Int} {d:List Int} {V:Int→Int→Int} {R:Int→Int×List Int} {a:dA} (hk:yyr a) (hs:yN a.2.1 s=true) (h:yP5 R B0 V a) (q0:a.2.2.2.2.2.2.1≤q) (q1:q<a.2.2.2.2.2.1) (hq:(R q).1=s):yP5 R B0 V (yB a s d):=by
 obtain⟨hB,hr⟩:=h;have ht:=yTg s d hk;have h1:=yW.1 hs;have hg:=yl.1 h1.1;have hda:=yjb (s:=s) h1.2.1 (by omega);obtain⟨c1,c2,c3,c4,c5,c6,c7⟩:=ybq (yei a s d);refine⟨by rw[c4]; exact hB,fun f' fl Lf hf hal=> ?_⟩;rw[c2,c3]at hal;have hal2:=yyw hal ht.f;obtain⟨f,hf0,hff⟩:=ht.c f' hf;obtain⟨Bf,⟨p1,p2⟩,h1,h2⟩:=hr f fl Lf hf0 hal2
 have hn01: ∀i n,0≤i→i<a.2.1.1→(n=0∨n=1)→f' i n=f i n:=fun i n i0 i1 hn=>by
  rcases hff i n i0 i1 (by omega)with e | ⟨e,_⟩
  ·exact e
  ·omega
 have he:Eq0 (yB a s d) fl Lf→Eq0 a fl Lf:=fun e=>⟨e.1.trans c3,fun i i0 i1=>(e.2 i i0 (by rw[c2]; exact i1)).trans (ht.f i i0 i1)⟩
 rw[c1,c2,c3,c5,c6,c7];refine⟨Bf,⟨fun e=>p1 (he e),fun e e1 e2=> ?_⟩,ygU h1 (fun i n i0 i1 _ hn=>hn01 i n i0 i1 hn),yfa h2 (fun i n i0 i1 hi hn=> ?_) (fun i n i0 i1 hn=>ht.d i n i0 i1 hn)⟩
 ·obtain⟨j,j0,j1,_⟩:=h1.u3
  have hL:=yfF (h1.u0 j j0 j1);have:=(he e).1;obtain⟨n,s',hn,hsv⟩:=p2 (he e) e1 e2;exact⟨n,s',hn,by rw[hn01 Lf n (by omega) (by omega) hn]; exact hsv⟩
 ·by_cases hx:n=yy s
  ·exact .inr (.inl ⟨q,q0,q1,by omega⟩)
  ·rcases hff i n i0 i1 (by omega)with e | ⟨e,_⟩
   ·exact .inl ⟨e,ht.b i n i0 i1 hx⟩
   ·exact absurd e hx
theorem yW5 {K B0:Int} {V:Int→Int→Int} {a:dA} (h:Rob B0 V a) (h1:a.2.2.2.2.2.2.2.1≤K) (h2:a.2.2.2.2.2.1≤K):Dd K (· =V) a:=fun f fl Lf hf hal=>by
 obtain⟨R,_,hr⟩:=h;obtain⟨Bf,_,g1,g2⟩:=hr f fl Lf hf hal;exact⟨V,rfl,_,_,_,_,_,R,Bf,h1,h2,g1,g2⟩
theorem yPJ (a:dA) (s:Int) (d:List Int):(yA a s d).2.1=a.1∧(yA a s d).2.2.1=a.2.1∧(yA a s d).2.2.2.2.1=a.2.2.2.1∧(yA a s d).2.2.2.2.2.1=a.2.2.2.2.1:=by
 obtain⟨e1,e2,e3,e4,_⟩:=yQi a;obtain⟨c1,c2,c3,c4,_,_,_⟩:=ybq (ya6 (yw a) ((yw a).2.2.2.2.2.1,s,d));unfold yA;generalize yp (yw a) ((yw a).2.2.2.2.2.1,s,d)=R at c1 c2 c3 c4 ⊢;obtain⟨g1,g2,g3,g4,_,_,_⟩:=ybq (yei (yC R) s d);generalize yB (yC R) s d=Q at g1 g2 g3 g4 ⊢;cases ya (yw a)
 ·cases ya R
  ·exact⟨(g1.trans c1).trans e1,(g2.trans c2).trans e2,(g3.trans c3).trans e3,(g4.trans c4).trans e4⟩
  ·exact⟨c1.trans e1,c2.trans e2,c3.trans e3,c4.trans e4⟩
 ·exact⟨e1,e2,e3,e4⟩
theorem y0e {a:dA} {s:Int} {d:List Int} (hk:yI a) (hs:yN a.2.1 s=true) (hq:0≤a.2.2.2.2.2.1) {i m:Int} (i0:0≤i) (i1:i<a.2.1.1) (m0:6≤m):(yJ (yA a s d).2 i m=true→yJ a i m=true)∧yF (yA a s d).2 i=yF a i:=by
 have hkc:yI (yw a):=by
  unfold yw;cases leb 4 (i64.wrap (a.2.2.2.2.2.1-a.2.2.2.2.2.2.1))
  ·exact hk
  ·exact yCT hk
 obtain⟨e1,e2,e3,e4,e5⟩:=yQi a;have hc:=y53 (m:=m) hk i0 i1 (by omega);have i1c:i<(yw a).2.1.1:=by rw[e2]; exact i1
 have hr:=yMZ ((yw a).2.2.2.2.2.1,s,d) (ybT hkc);have hkr:=yxT ((yw a).2.2.2.2.2.1,s,d) hkc;have hrb:=hr.d i m i0 i1c;have hrf:=hr.f i i0 i1c;unfold yA;generalize yp (yw a) ((yw a).2.2.2.2.2.1,s,d)=R at hr hkr hrb hrf ⊢;have hd:=yTg (a:=yC R) s d (ybT (a:=yC R) hkr);have i1r:i<(yC R).2.1.1:=by show i<R.2.1.1; rw[hr.g]; exact i1c
 have hdb:=hd.d i m i0 i1r;have hdf:=hd.f i i0 i1r;generalize yB (yC R) s d=Q at hdb hdf ⊢;cases ya (yw a)
 ·cases ya R
  ·exact⟨fun h=>by have:=hrb (hdb h); rw[hc.1]at this; exact this,(hdf.trans hrf).trans hc.2⟩
  ·exact⟨fun h=>by have:=hrb h; rw[hc.1]at this; exact this,hrf.trans hc.2⟩
 ·exact⟨fun h=>by have:yJ (yw a) i m=true:=h; rw[hc.1]at this; exact this,hc.2⟩
theorem y5H {K s:Int} {d:List Int} {V:Int→Int→Int} {C:dA} (lc:Lv K V C) (h3:C.2.2.2.2.2.1-C.2.2.2.2.2.2.1≤3) (hq:C.2.2.2.2.2.1<60000) (hs:yN C.2.1 s=true) (hl:(d.length:Int)=C.2.1.1-1) (hd:d.all isW=true) (hr:ya (yp C (C.2.2.2.2.2.1,s,d))=false) :
  (∃B0,Rob B0 (ycV V C.2.1 s d) (yB (yC (yp C (C.2.2.2.2.2.1,s,d))) s d))∧Dd (K+1) (· =ycV V C.2.1 s d) (yB (yC (yp C (C.2.2.2.2.2.1,s,d))) s d):=by
 obtain⟨B0,R,hR⟩:=lc.r;have rd:=y5E lc.x hR h3 hq hs hl hd hr;have c:=ybq (ya6 C (C.2.2.2.2.2.1,s,d));have kp:=yxT (C.2.2.2.2.2.1,s,d) lc.x.xk;have lcx:=lc.x.xc;unfold yU at lcx;have hg:=lc.x.xg;have hx:=lc.x.xs;generalize yp C (C.2.2.2.2.2.1,s,d)=P at rd c kp;have e5:=c.s
 have hsq:(yC P).2.2.2.2.2.1=C.2.2.2.2.2.1+1:=by
  show i64.wrap (P.2.2.2.2.2.1+1)=_;rw[e5]; exact wr (by omega) (by omega)
 have hsg:(yC P).2.1=C.2.1:=c.g;have hst:(yC P).2.2.2.2.2.2.1=C.2.2.2.2.2.2.1:=c.t;have hse:(yC P).2.2.2.2.2.2.2.1=C.2.2.2.2.2.2.2.1:=c.e;have kp2:yI (yC P):=kp;generalize yC P=U at rd hsq hsg hst hse kp2;have rr:=y5G (d:=d) (q:=C.2.2.2.2.2.1) (ybT kp2) (by rw[hsg]; exact hs) rd (by omega) (by omega) (by rw[yyk]);have g:=ybq (yei U s d);have g5:=g.s;have g7:=g.e;exact⟨⟨B0,_,rr⟩,yW5 ⟨_,rr⟩ (by omega) (by omega)⟩
theorem y2J {K s:Int} {d:List Int} {V:Int→Int→Int} {a:dA} (h:Lv K V a) (hs:yN a.2.1 s=true) (hl:(d.length:Int)=a.2.1.1-1) (hd:d.all isW=true) (hq:a.2.2.2.2.2.1<60000) (hk:K+1≤60000) :
  (ya (yA a s d).2=false→Lv (K+2) (ycV V a.2.1 s d) (yA a s d).2∧(yA a s d).1=0)∧(ya (yA a s d).2=true→Dd (K+2) (Two V (ycV V a.2.1 s d)) (yA a s d).2∧(yA a s d).1≠0):=by
 have c:=h.x.xc;unfold yU at c;obtain⟨w1,w2,w3,w4⟩:=yPJ a s d;have hb:=fun i m i0 i1 m0=>y0e (s:=s) (d:=d) h.x.xk hs (by omega) (i:=i) (m:=m) i0 i1 m0
 have up:=fun hu=>y5y h.x hs hl hd hq hk hu
 have key:(ya (yA a s d).2=false→ ∃B0,Rob B0 (ycV V a.2.1 s d) (yA a s d).2)∧(ya (yA a s d).2=true→Dd (K+2) (Two V (ycV V a.2.1 s d)) (yA a s d).2∧(yA a s d).1≠0):=by
  obtain⟨e1,e2,e3,e4,e5⟩:=yQi a;have l1:=y6x h hk;have l3:=fun hc=>(y4V h.x hk hc).2.2
  unfold yA;generalize yw a=C at e1 e2 e3 e4 e5 l1 l3;cases hc:ya C
  ·have lc:=l1.1 hc
   have h3:=l3 hc;have rr:=y5H (s:=s) (d:=d) lc h3 (by omega) (by rw[e2]; exact hs) (by rw[e2]; exact hl) hd;have rt:=y5F lc h3 (by omega) (by rw[e2]; exact hs) (by rw[e2]; exact hl) hd;rw[e2]at rr rt;generalize yp C (C.2.2.2.2.2.1,s,d)=P at rr rt;cases hr:ya P
   ·obtain⟨r1,r2⟩:=rr hr
    generalize yB (yC P) s d=Q at r1 r2;refine⟨fun _=>r1,fun hu=>⟨ymh r2 (by omega) (fun X hX=> .inr hX),?_⟩⟩;have hu:ya Q=true:=hu;show(bif ya Q then(6:Int)else 0)≠0;rw[hu]; decide
   ·exact⟨(fun hu=>by have hu:ya P=false:=hu; rw[hr]at hu; cases hu),fun _=>⟨ymh rt (by omega) (fun X hX=>hX),by show(6:Int)≠0; decide⟩⟩
  ·exact⟨(fun hu=>by have hu:ya C=false:=hu; rw[hc]at hu; cases hu),fun _=>⟨ymh (l1.2 hc) (by omega) (fun X hX=> .inl hX),by show(6:Int)≠0; decide⟩⟩
 generalize yA a s d=W at w1 w2 w3 w4 hb up key;refine⟨fun hu=>⟨⟨(up hu).1,key.1 hu,?_⟩,(up hu).2⟩,key.2⟩;exact y4n h.n w2 w3 w4 (by omega) (fun i m i0 i1 m0=>(hb i m i0 i1 m0).1) (fun i i0 i1=>(hb i 6 i0 i1 (by omega)).2)
theorem y3K {K T L B:Int} {R:Int→Int×List Int} {V:Int→Int→Int} {A:dA} (hx:Ix K V A) (hn:Nb A) (hk:K+1≤60000)
  (old: ∀f fl Lf,Ch A f→Al A.2.2.2.1 A.2.1.1 (yF A) fl Lf→ ∃Bf,Wsup A.1 A.2.1 A.2.2.2.2.2.2.2.1 T L B Lf Bf f fl∧Wdat A.2.1 T A.2.2.2.2.2.1 R V Lf Bf f fl (yJ A))
  (new: ∀f fl Lf,Ch A f→Al A.2.2.2.1 A.2.1.1 (yF A) fl Lf→Wdat A.2.1 A.2.2.2.2.2.2.1 A.2.2.2.2.2.1 R V Lf A.2.2.2.2.1 f fl (yJ A)) :
  (ya (yD A)=false→Lv (K+1) V (yD A))∧(ya (yD A)=true→Dd (K+1) (· =V) (yD A)):=by
 have hxg:=hx.xg;have hxs:=hx.xs;have hm:Mk A:=y3L hx.xc hx.xk (by omega);have hmn:=hm.n;have hml:=hm.l;have ht:=yJg hm.k;obtain⟨c1,c2,c3,c4,c5,c6,c7⟩:=ybq (yjd A);have d1:(yaw A).1=A.1:=rfl;have c7':(yD A).2.2.2.2.2.2.2.1=A.2.2.2.2.2.2.2.1+1:=by rw[c7]; exact wr (by omega) (by omega)
 have c1:(yD A).1=A.1:=c1;have c2:(yD A).2.1=A.2.1:=c2;have c3:(yD A).2.2.2.1=A.2.2.2.1:=c3;have c4:(yD A).2.2.2.2.1=A.2.2.2.2.1:=c4;have c5:(yD A).2.2.2.2.2.1=A.2.2.2.2.2.1:=c5;have c6:(yD A).2.2.2.2.2.2.1=A.2.2.2.2.2.2.1:=c6;have hmod:(i64.wrap (A.2.2.2.2.2.2.2.1+1)).tmod 2<2:=Int.tmod_lt_of_pos _ (by omega);have hb: ∀i m,0≤i→i<A.2.1.1→6≤m→yJ (yD A) i m=true→yJ A i m=true:=fun i m i0 i1 _=>ht.d i m i0 i1
 refine⟨fun hu=>⟨y3E hx hk hu,⟨A.2.2.2.2.1,R,by rw[c4]; exact Int.le_refl _,fun f fl Lf hf hal=> ?_⟩,y4n hn c2 c3 c4 hml hb ht.f⟩,fun _ f fl Lf hf hal=>⟨V,rfl,?_⟩⟩
 ·rw[c2,c3]at hal
  have hal2:=yyw hal ht.f
  obtain⟨Bf,⟨h1,h2⟩,h3⟩:=yZ0 hm hu (fun i i0 i1=>y4h hx i0 i1) (fun i i0 i1 h=>y4g hx i0 i1 h) hf hal2 (fun f hf i n s i0 i1 hi hn2 hsv=>by
   obtain⟨Bf,g1,_⟩:=old f (yF A) A.2.2.2.1 hf (yML A);obtain⟨k1,k2⟩:=g1.u1 i n s i0 i1 hi hn2 hsv;refine⟨k1,?_⟩;rcases k2 with k2 | k2
   ·omega
   ·rw[k2]; exact Int.le_refl _) (fun f hf=>new f fl Lf hf hal2) hn.z
  have he:Eq0 (yD A) fl Lf→Eq0 A fl Lf:=fun e=>⟨e.1.trans c3,fun i i0 i1=>(e.2 i i0 (by rw[c2]; exact i1)).trans (ht.f i i0 i1)⟩
  rw[c1,c2,c3,c5,c6,c7'];exact⟨Bf,⟨fun e=>h1 (he e),fun e=>h2 (he e)⟩,h3⟩
 ·rw[c2,c3]at hal
  have hal2:=yyw hal ht.f
  have hT:=yZ1 (T:=T) (L:=L) (B:=B) (Q:=A.2.2.2.2.2.1) (Lf:=Lf) (Lf2:=Lf) (R:=R) (V:=V) hm hf (fun i i0 i1 hi=>yDY hal2 i0 i1 hi) (fun f hf=>old f fl Lf hf hal2) (fun f hf=>new f fl Lf hf hal2) (fun f hf i i0 i1 hne=>by
   obtain⟨Bf,g1,_⟩:=old f fl Lf hf hal2
   exact g1.u2 i i0 i1 hne) (y6o hal2)
  rw[c1,c2];rcases hT with⟨Bf,h1,h2⟩ | ⟨Bf,h1,h2⟩
  ·exact⟨_,_,_,_,_,R,Bf,by omega,by omega,h1,h2⟩
  ·exact⟨_,_,_,_,_,R,Bf,by omega,by omega,h1,h2⟩
theorem yZ5 {m:dM} {k:Int} {v:List Int} (h:yla (yao m) k v):yla m k v:=by
 rcases h with h | ⟨w,hw,_⟩
 ·exact .inl h
 ·cases hw
theorem y6d {K m:Int} {V:Int→Int→Int} {a:dA} (h:Lv K V a) (hl:a.2.2.2.1= -1) (hm:inb m a.2.2.1.length=true) (hk:K+1≤60000) :
  (ya (yia a m)=false→Lv (K+1) V (yia a m))∧(ya (yia a m)=true→Dd (K+1) (· =V) (yia a m)):=by
 rw[y57 h.x (.inl hl) hk];have hmi:=zj4.1 hm;have hlen:=h.x.xk.1.2;have hx:=y3l h.x (.inl hl) hm;have hd: ∀i,0≤i→yi (yax a m) i=bif m==i then yao (yi a m)else yi a i:=fun i i0=>yKS m _ hm i0
 have hfl: ∀i,0≤i→yF (yax a m) i=(yF a i||i==m):=fun i i0=>by
  unfold yF;rw[hd i i0];by_cases e:m=i
  ·subst e; rw[beq_self_eq_true,Bool.or_true]; rfl
  ·rw[show(m==i)=false from beq_eq_false_iff_ne.2 e,show(i==m)=false from beq_eq_false_iff_ne.2 (fun e2=>e e2.symm),Bool.or_false]; rfl
 have hbd: ∀i n,0≤i→yJ (yax a m) i n=yJ a i n:=fun i n i0=>by
  unfold yJ;rw[hd i i0];by_cases e:m=i
  ·subst e; rw[beq_self_eq_true]; rfl
  ·rw[show(m==i)=false from beq_eq_false_iff_ne.2 e]; rfl
 have hch: ∀f,Ch (yax a m) f→Ch a f:=fun f hf i n i0 i1 n0=>by
  have:=hf i n i0 i1 n0;rw[hd i i0]at this;by_cases e:m=i
  ·subst e; rw[beq_self_eq_true]at this; exact yZ5 this
  ·rw[show(m==i)=false from beq_eq_false_iff_ne.2 e]at this; exact this
 obtain⟨B0,R,hB,hr⟩:=h.r
 have key: ∀f fl Lf,Ch (yax a m) f→Al m a.2.1.1 (yF (yax a m)) fl Lf→Wsup a.1 a.2.1 a.2.2.2.2.2.2.2.1 a.2.2.2.2.2.2.1 a.2.2.2.1 B0 Lf 0 f fl∧Wdat a.2.1 a.2.2.2.2.2.2.1 a.2.2.2.2.2.1 R V Lf 0 f fl (yJ (yax a m)):=fun f fl Lf hf hal=>by
  have hal2:Al a.2.2.2.1 a.2.1.1 (yF a) fl Lf:=by
   rcases hal with⟨h1,h2⟩ | ⟨h1,h2,h3,h4⟩
   ·exact .inr ⟨by omega,by omega,.inl hl,fun i i0 i1=>by rw[h2 i i0 i1,hfl i i0,h1]⟩
   ·have:m=Lf:=by omega
    refine .inr ⟨h1,h2,.inl hl,fun i i0 i1=> ?_⟩;rw[h4 i i0 i1,hfl i i0,this];cases yF a i<;>cases(i==Lf)<;>rfl
  have hLf:Lf=m:=by rcases hal with⟨h1,_⟩ | ⟨_,_,h3,_⟩<;>omega
  obtain⟨Bf,_,h1,h2⟩:=hr f fl Lf (hch f hf) hal2;have hB0:Bf=0:=by rcases h1.u4 with⟨h3,_⟩ | ⟨_,_,_,_,h3⟩<;>omega
  subst hB0;exact⟨h1,yfa h2 (fun i n i0 i1 _ _=> .inl ⟨rfl,hbd i n i0⟩) (fun i n i0 i1 hb=>by rw[hbd i n i0]at hb; exact hb)⟩
 exact y3K (T:=a.2.2.2.2.2.2.1) (L:=a.2.2.2.1) (B:=B0) (R:=R) hx ⟨fun _ i s _ _ _ s0 s1=>absurd s1 (by show ¬s<0; omega),fun _ _=>rfl⟩ hk (fun f fl Lf hf hal=>⟨0,key f fl Lf hf hal⟩) (fun f fl Lf hf hal=>(key f fl Lf hf hal).2)
theorem yH5:(yeT []).2=false∧(yaE []).2=false:=⟨by unfold yeT; rfl,by unfold yaE; rfl⟩
theorem y5D (n:Nat) (k:Int):nth (List.replicate n ([]:List Int)) k []= []:=by
 unfold nth;rw[List.getD_eq_getElem?_getD,List.getElem?_replicate];split<;>rfl
theorem y5A {K:Int} {V:Int→Int→Int} {a:dA} (h:Lv K V a) (hm:inb a.2.2.2.1 a.2.2.1.length=true) (hf0:(nth a.2.2.1 a.2.2.2.1 yc).2.2.1=true) (hk:K+1≤60000) :
  (ya (yD (yaa a))=false→Lv (K+1) V (yD (yaa a)))∧(ya (yD (yaa a))=true→Dd (K+1) (· =V) (yD (yaa a))):=by
 have hmi:=zj4.1 hm;have hlen:=h.x.xk.1.2;have hg:=yl.1 h.x.xc.1;have hx:=y3m h.x hm;have hLt:yF a a.2.2.2.1=true:=hf0;have hd: ∀i,0≤i→yi (yaa a) i=bif a.2.2.2.1==i then ya9 (6+a.2.1.2)else yi a i:=fun i i0=>yKS a.2.2.2.1 _ hm i0
 have hdo: ∀i,0≤i→i≠a.2.2.2.1→yi (yaa a) i=yi a i:=fun i i0 hi=>by rw[hd i i0,show(a.2.2.2.1==i)=false from beq_eq_false_iff_ne.2 (fun e=>hi e.symm)]; rfl
 have hdl:yi (yaa a) a.2.2.2.1=(List.replicate (6+a.2.1.2).toNat [],[],false,[]):=by rw[hd _ hmi.1,beq_self_eq_true,cond_true,yth hg.2]
 have hlf:yF (yaa a) a.2.2.2.1=false:=by unfold yF; rw[hdl]
 have hlb: ∀n,yJ (yaa a) a.2.2.2.1 n=false:=fun n=>by unfold yJ; rw[hdl]; rfl
 obtain⟨B0,R,hB,hr⟩:=h.r
 have key: ∀f fl Lf,Ch (yaa a) f→Al a.2.2.2.1 a.2.1.1 (yF (yaa a)) fl Lf→Wsup a.1 a.2.1 a.2.2.2.2.2.2.2.1 a.2.2.2.2.2.2.1 a.2.2.2.1 B0 Lf 0 f fl∧Wdat a.2.1 a.2.2.2.2.2.2.1 a.2.2.2.2.2.1 R V Lf 0 f fl (yJ (yaa a)):=fun f fl Lf hf hal=>by
  have hLf:Lf=a.2.2.2.1:=by rcases hal with⟨h1,_⟩ | ⟨_,_,h3,_⟩<;>omega
  subst hLf
  have hfn: ∀n,0≤n→f a.2.2.2.1 n= []:=fun n n0=>by
   rcases hf a.2.2.2.1 n hmi.1 (by show a.2.2.2.1<a.2.1.1; omega) n0 with h1 | ⟨w,hw,_⟩
   ·rw[h1,hdl]; exact y5D _ _
   ·rw[hdl]at hw; cases hw
  have hfe: ∀i,0≤i→i<a.2.1.1→i≠a.2.2.2.1→fl i=yF a i:=fun i i0 i1 hi=>by
   have e:yF (yaa a) i=yF a i:=by unfold yF; rw[hdo i i0 hi]
   rcases hal with⟨_,h2⟩ | ⟨_,_,_,h2⟩
   ·rw[h2 i i0 i1,e]
   ·rw[h2 i i0 i1,e,show(i==a.2.2.2.1)=false from beq_eq_false_iff_ne.2 hi,Bool.or_false]
  obtain⟨f0,hf0d⟩: ∃f0:Int→Int→List Int,f0=fun i n=>if i=a.2.2.2.1 then ycn (yi a a.2.2.2.1) n else f i n:=⟨_,rfl⟩
  have hf0e: ∀i n,i≠a.2.2.2.1→f0 i n=f i n:=fun i n hi=>by rw[hf0d]; exact if_neg hi
  have hch:Ch a f0:=fun i n i0 i1 n0=>by
   by_cases e:i=a.2.2.2.1
   ·rw[hf0d]; simp only[if_pos e]; rw[e]; exact yxO _ _
   ·rw[hf0e i n e]
    have:=hf i n i0 i1 n0;rw[hdo i i0 e]at this; exact this
  obtain⟨Bf,_,h1,h2⟩:=hr f0 (yF a) a.2.2.2.1 hch (yML a)
  have hB0:Bf=0:=by
   rcases h1.u4 with⟨_,_,h3⟩ | ⟨_,_,_,_,h3⟩
   ·rcases h3 with h3 | ⟨h3,_⟩
    ·omega
    ·rw[hLt]at h3; cases h3
   ·exact h3
  subst hB0;have nf: ∀i,0≤i→i<a.2.1.1→yF a i=false→i≠a.2.2.2.1:=fun i _ _ hi e=>by rw[e,hLt]at hi; cases hi
  have nown: ¬(fl a.2.2.2.1=false∧yfX a.1 (f a.2.2.2.1)):=fun⟨_,n,s,hn,hs⟩=>by
   have:=hs.1;rw[hfn n (by omega)]at this;have h2:=yH5.1;rw[this]at h2; cases h2
  refine⟨⟨h1.u0,fun i n s i0 i1 hi hn hs=> ?_,fun i i0 i1 hne=> ?_,?_,.inr ⟨hmi.1,by omega,nown,.inr rfl,rfl⟩⟩,⟨h2.e,h2.q,fun i s i0 i1 s0 s1 hi hlv hb hj=> ?_,fun q q0 q1=> ?_,fun i n r i0 i1 hi h3 h6 hgr=> ?_,h2.v,h2.l,fun i n i0 i1 hi hb=> ?_⟩⟩
  ·by_cases e:i=a.2.2.2.1
   ·subst e
    have:=hs.1;rw[hfn n (by omega)]at this;have h2:=yH5.1;rw[this]at h2; cases h2
   ·exact h1.u1 i n s i0 i1 ((hfe i i0 i1 e).symm.trans hi) hn (by rw[hf0e i n e]; exact hs)
  ·obtain⟨k1,n,s,hn,hs⟩:=h1.u2 i i0 i1 hne
   exact⟨(hfe i i0 i1 hne).trans k1,n,s,hn,by rw[← hf0e i n hne]; exact hs⟩
  ·obtain⟨i,i0,i1,hi,e⟩:=h1.u3
   have hne:=nf i i0 i1 hi;exact⟨i,i0,i1,(hfe i i0 i1 hne).trans hi,by rw[← hf0e i _ hne]; exact e⟩
  ·have hne:i≠a.2.2.2.1:=by omega
   rw[← hf0e i _ hne];refine h2.d i s i0 i1 s0 s1 ((hfe i i0 i1 hne).symm.trans hi) hlv ?_ hj;unfold yJ at hb ⊢;rw[hdo i i0 hne]at hb; exact hb
  ·obtain⟨i,i0,i1,hi,e⟩:=h2.r q q0 q1
   have hne:=nf i i0 i1 hi;exact⟨i,i0,i1,(hfe i i0 i1 hne).trans hi,by rw[← hf0e i _ hne]; exact e⟩
  ·by_cases e:i=a.2.2.2.1
   ·subst e
    rw[hfn n (by omega)]at hgr;have h2:=yH5.2;rw[hgr]at h2; cases h2
   ·exact h2.h i n r i0 i1 ((hfe i i0 i1 e).symm.trans hi) h3 h6 (by rw[hf0e i n e]; exact hgr)
  ·by_cases e:i=a.2.2.2.1
   ·subst e; rw[hlb n]at hb; cases hb
   ·refine h2.b i n i0 i1 ((hfe i i0 i1 e).symm.trans hi) ?_
    unfold yJ at hb ⊢;rw[hdo i i0 e]at hb; exact hb
 exact y3K (T:=a.2.2.2.2.2.2.1) (L:=a.2.2.2.1) (B:=B0) (R:=R) hx ⟨fun _ i s _ _ _ s0 s1=>absurd s1 (by show ¬s<0; omega),fun _ _=>rfl⟩ hk (fun f fl Lf hf hal=>⟨0,key f fl Lf hf hal⟩) (fun f fl Lf hf hal=>(key f fl Lf hf hal).2)
theorem y4X {id:Int} {g:dG} (hg:yd g=true) (h1:1≤id) (h2:id≤60000):Lv 0 (fun _ _=>0) (yeG id g):=by
 have hge:=yl.1 hg;have hd: ∀i,0≤i→i<g.1→yi (yeG id g) i=yP id g i:=fun i i0 i1=>y41 hg h1 h2 i0 i1
 have e:=yFX hg h1 h2;have hx:=y6t hg h1 h2;have hfl: ∀i,0≤i→i<g.1→yF (yeG id g) i=false:=fun i i0 i1=>by unfold yF; rw[hd i i0 i1,(ypD id i hg).2.2]
 have hbd: ∀i n,0≤i→i<g.1→yJ (yeG id g) i n=false:=fun i n i0 i1=>by unfold yJ ya3; rw[hd i i0 i1,(ypD id i hg).2.2]; rfl
 have hpo: ∀i n v,0≤i→i<g.1→0≤n→yla (yi (yeG id g) i) n v→v=bif leb 6 n&&ltb n (6+g.2)then[0]else bif n==0 then ym (ye3 id g 0 0 (-1) 0 i)else[]:=fun i n v i0 i1 n0 h=>by
  have hn:=yPE (id:=id) (i:=i) hg g.2.toNat (Nat.le_refl _) n n0;rw[hd i i0 i1]at h;rcases h with h | ⟨w,hw,_⟩
  ·have h:v=nth ((List.range g.2.toNat).foldl ypC (yjq id g i)).1 n []:=h
   rw[h,hn,show((g.2.toNat:Nat):Int)=g.2 by omega]; rfl
  ·rw[(ypD id i hg).2.2]at hw; cases hw
 refine⟨hx,⟨0,fun _=>(0,[]),by rw[e]; exact Int.le_refl _,fun f fl Lf hf hal=> ?_⟩,⟨fun hn=>absurd (by rw[e]) hn,fun hn=>absurd (by rw[e]) hn⟩⟩;generalize hA:yeG id g=A at *;have a1:A.1=id:=by rw[e]
 have a2:A.2.1=g:=by rw[e]
 have a3:A.2.2.2.1= -1:=by rw[e]
 have a5:A.2.2.2.2.2.1=0:=by rw[e]
 have a6:A.2.2.2.2.2.2.1=0:=by rw[e]
 have a7:A.2.2.2.2.2.2.2.1=0:=by rw[e]
 have a4:A.2.2.2.2.1=0:=by rw[e]
 rw[a2,a3]at hal;have hf2: ∀i n,0≤i→i<g.1→0≤n→f i n=bif leb 6 n&&ltb n (6+g.2)then[0]else bif n==0 then ym (ye3 id g 0 0 (-1) 0 i)else[]:=fun i n i0 i1 n0=>hpo i n _ i0 i1 n0 (hf i n i0 (by rw[a2]; exact i1) n0)
 have f0: ∀i,0≤i→i<g.1→f i 0=ym (ye3 id g 0 0 (-1) 0 i):=fun i i0 i1=>by rw[hf2 i 0 i0 i1 (Int.le_refl _)]; rfl
 have fn: ∀i n,0≤i→i<g.1→1≤n→n<6→f i n= []:=fun i n i0 i1 h1 h6=>by
  rw[hf2 i n i0 i1 (by omega),zkZ (show n<6 by omega),show(n==0)=false from beq_eq_false_iff_ne.2 (by omega)]; rfl
 have hok: ∀i,0≤i→i<g.1→yH (ye3 id g 0 0 (-1) 0 i)=true:=fun i i0 i1=>y23 (by omega) hg ⟨h1,h2⟩ (by omega) (by omega) (by omega) (.inr rfl) i0 i1
 have nf: ∀i,0≤i→i<g.1→i≠Lf→fl i=false:=fun i i0 i1 hne=>y5Z hal (fun i i0 i1 h=>by rw[hfl i i0 i1]at h; cases h) i0 i1 hne
 have own: ∀i,0≤i→i<g.1→yfX id (f i):=fun i i0 i1=>⟨0,_,.inl rfl,by rw[f0 i i0 i1]; exact yyp (hok i i0 i1)⟩
 rw[a1,a2,a3,a5,a6,a7];refine⟨0,⟨fun _=>rfl,fun e1 e2=>absurd (e1.1.trans a3) e2⟩,⟨hok,fun i n s i0 i1 hi hn hs=> ?_,fun i i0 i1 hne=>⟨nf i i0 i1 hne,own i i0 i1⟩,?_,?_⟩,⟨y2w g,by omega,fun i s i0 i1 s0 s1 hi hlv hb hj=> ?_,fun q q0 q1=>by omega,fun i n r i0 i1 hi n2 n6 hr=> ?_,fun q q0 q1=>by omega,fun q q0 q1=>by omega,fun i n i0 i1 hi hb=>by rw[hbd i n i0 i1]at hb; cases hb⟩⟩
 ·rcases hn with rfl | rfl
  ·have hs1:=hs.1
   rw[f0 i i0 i1,yJp (hok i i0 i1)]at hs1;have:=congrArg (fun x=>x.1) hs1;simp only at this;subst this;exact⟨rfl,.inr rfl⟩
  ·have hs1:=hs.1
   rw[fn i 1 i0 i1 (by omega) (by omega)]at hs1;have h3:=yH5.1;rw[hs1]at h3; cases h3
 ·by_cases h:Lf=0
  ·exact⟨1,by omega,by omega,nf 1 (by omega) (by omega) (by omega),f0 1 (by omega) (by omega)⟩
  ·exact⟨0,by omega,by omega,nf 0 (by omega) (by omega) (fun e=>h e.symm),f0 0 (by omega) (by omega)⟩
 ·rcases hal with⟨h3,_⟩ | ⟨h3,h4,h5,h6⟩
  ·exact .inl ⟨h3,rfl,.inl h3⟩
  ·refine .inr ⟨h3,h4,fun h=> ?_,.inl rfl,rfl⟩
   have:=h.1;rw[h6 Lf h3 h4,beq_self_eq_true,Bool.or_true]at this; cases this
 ·rw[hf2 i (s+6) i0 i1 (by omega),zk0 (show 6≤s+6 by omega),zkw (show s+6<6+g.2 by omega)]; rfl
 ·rw[fn i n i0 i1 (by omega) n6]at hr
  have h3:=yH5.2;rw[hr]at h3; cases h3
theorem yHj (ok:Nat→Bool) (c:Nat→dS): ∀n,let r:=(List.range n).foldl (fun s (i:Nat)=>ylQ s (ok i) (c i)) (yeV,false)
  (r.2=true→ ∃i,i<n∧ok i=true∧r.1=c i)∧ ∀i,i<n→ok i=true→r.2=true∧(c i).2.1≤r.1.2.1
 | 0=>⟨fun h=>(by cases h),fun i hi=>absurd hi (Nat.not_lt_zero _)⟩
 | n+1=>by
  have ih:=yHj ok c n;simp only at ih ⊢;rw[List.range_succ,List.foldl_append,List.foldl_cons,List.foldl_nil];generalize (List.range n).foldl (fun s (i:Nat)=>ylQ s (ok i) (c i)) (yeV,false)=r at ih ⊢;obtain⟨h1,h2⟩:=ih;unfold ylQ;cases hk:ok n
  ·refine⟨fun h=> ?_,fun i hi ho=> ?_⟩
   ·obtain⟨i,hi,ho,e⟩:=h1 h
    exact⟨i,by omega,ho,e⟩
   ·rcases Nat.lt_succ_iff_lt_or_eq.1 hi with h | h
    ·exact h2 i h ho
    ·subst h; rw[hk]at ho; cases ho
  ·cases hb:(!r.2||ltb r.1.2.1 (c n).2.1)
   ·rw[Bool.or_eq_false_iff,Bool.not_eq_false']at hb
    have hle:=zkU hb.2;refine⟨fun h=> ?_,fun i hi ho=> ?_⟩
    ·obtain⟨i,hi,ho,e⟩:=h1 h
     exact⟨i,by omega,ho,e⟩
    ·rcases Nat.lt_succ_iff_lt_or_eq.1 hi with h | h
     ·exact h2 i h ho
     ·subst h; exact⟨hb.1,hle⟩
   ·refine⟨fun _=>⟨n,by omega,hk,rfl⟩,fun i hi ho=>⟨rfl,?_⟩⟩
    show(c i).2.1≤(c n).2.1;rcases Nat.lt_succ_iff_lt_or_eq.1 hi with h | h
    ·obtain⟨g1,g2⟩:=h2 i h ho
     rw[g1,Bool.not_true,Bool.false_or,zj8]at hb;omega
    ·subst h; exact Int.le_refl _
structure Fell (S:Int) (m:dM):Prop where
 ok:yv m=true
 len:(m.1.length:Int)=6+S
 cac:m.2.1= []
theorem y4N {S:Int} {m:dM} (h:Fell S m) (hS:1≤S) (hf:m.2.2.1=false) {n:Int} (n0:0≤n) (n6:n<6) (hb:ya3 m n=false):yQ m n=(nth m.1 n [],true):=by
 rw[yTd h.ok hf (zj4.2 (by have:=h.len; omega)),hb,cond_false];unfold ycn;rw[h.cac]; rfl
theorem y2t {S id:Int} {m:dM} (h:Fell S m) (hS:1≤S) (hf:m.2.2.1=false) {n:Int} (n0:0≤n) (n6:n<6) (hb:ya3 m n=false):(yq5 m id n=true→yxg id n (nth m.1 n []) (yHk m n))∧ ∀s,yxg id n (nth m.1 n []) s→yq5 m id n=true∧yHk m n=s:=by
 have hr:=y4N h hS hf n0 n6 hb;unfold yq5 yxg yHk;rw[hr];refine⟨fun hc=> ?_,fun s ⟨h1,h2,h3⟩=> ?_⟩
 ·simp only[Bool.true_and,Bool.and_eq_true,beq_iff_eq]at hc
  exact⟨Prod.ext rfl hc.1,hc.2.1,hc.2.2⟩
 ·rw[h1]
  refine⟨?_,rfl⟩;show(true&&(true&&(s.1==id&&s.2.1.tmod 2==n)))=true;rw[h2,h3,beq_self_eq_true,beq_self_eq_true]; rfl
theorem yKN {S id:Int} {m:dM} (h:Fell S m) (hS:1≤S) (hf:m.2.2.1=false) (hb: ∀n,0≤n→n<6→ya3 m n=false) :
  ((yas m id).2=true→ ∃n,(n=0∨n=1)∧yxg id n (nth m.1 n []) (yas m id).1)∧ ∀n s,(n=0∨n=1)→yxg id n (nth m.1 n []) s→(yas m id).2=true∧s.2.1≤(yas m id).1.2.1:=by
 obtain⟨b1,b2⟩:=yHj (fun(i:Nat)=>yq5 m id i) (fun(i:Nat)=>yHk m i) 2;have e:yas m id=(List.range 2).foldl (fun s (i:Nat)=>ylQ s (yq5 m id i) (yHk m i)) (yeV,false):=rfl;rw[← e]at b1 b2;refine⟨fun h2=> ?_,fun n s hn hs=> ?_⟩
 ·obtain⟨i,hi,ho,e1⟩:=b1 h2
  have hc:=(y2t (id:=id) h hS hf (n:=i) (by omega) (by omega) (hb i (by omega) (by omega))).1 ho;exact⟨i,by omega,by rw[e1]; exact hc⟩
 ·obtain⟨k,rfl⟩: ∃k:Nat,n=k:=⟨n.toNat,by omega⟩
  obtain⟨h1,h2⟩:=(y2t (id:=id) h hS hf (n:=k) (by omega) (by omega) (hb k (by omega) (by omega))).2 s hs;have:=b2 k (by omega) h1;rw[h2]at this; exact this
structure FellAll (g:dG) (l:List dM):Prop where
 n:(l.length:Int)=g.1
 f: ∀i,0≤i→i<g.1→Fell g.2 (nth l i yc)
def yyl (l:List dM) (i n:Int):List Int:=nth (nth l i yc).1 n []
def flF (l:List dM) (i:Int):Bool:=(nth l i yc).2.2.1
def bdF (l:List dM) (i n:Int):Bool:=ya3 (nth l i yc) n
theorem yS1 {id:Int} {g:dG} {G T L B Lf Bf:Int} {l:List dM} (hl:FellAll g l) (hS:1≤g.2) (hs:Wsup id g G T L B Lf Bf (yyl l) (flF l)) (hb: ∀i n,0≤i→i<g.1→flF l i=false→bdF l i n=true→6≤n) {i:Int} (i0:0≤i) (i1:i<g.1) :
  (yh1 (nth l i yc) i id=true→flF l i=false∧yfX id (yyl l i)∧ ∃n,(n=0∨n=1)∧yxg id n (yyl l i n) (yas (nth l i yc) id).1)∧(flF l i=false→yfX id (yyl l i)→yh1 (nth l i yc) i id=true):=by
 have hb2:flF l i=false→ ∀n,0≤n→n<6→ya3 (nth l i yc) n=false:=fun hf n n0 n6=>by
  cases hx:ya3 (nth l i yc) n
  ·rfl
  ·have:=hb i n i0 i1 hf hx; omega
 unfold yh1;constructor
 ·intro h
  simp only[Bool.and_eq_true,Bool.not_eq_true',beq_iff_eq]at h;obtain⟨n,hn,hsv⟩:=(yKN (id:=id) (hl.f i i0 i1) hS h.1 (hb2 h.1)).1 h.2.1;exact⟨h.1,⟨n,_,hn,hsv⟩,n,hn,hsv⟩
 ·intro hf ⟨n,s,hn,hsv⟩
  obtain⟨b1,b2⟩:=yKN (id:=id) (hl.f i i0 i1) hS hf (hb2 hf);obtain⟨g1,_⟩:=b2 n s hn hsv;obtain⟨k,hk,hkv⟩:=b1 g1;have hr:=(hs.u1 i k _ i0 i1 hf hk hkv).1;have hf':(nth l i yc).2.2.1=false:=hf;rw[hf',g1,hr,beq_self_eq_true]; rfl
theorem y32 {id:Int} {g:dG} {G T L B Lf Bf:Int} {l:List dM} (hl:FellAll g l) (hS:1≤g.2) (hs:Wsup id g G T L B Lf Bf (yyl l) (flF l)) (hb: ∀i n,0≤i→i<g.1→flF l i=false→bdF l i n=true→6≤n): ∃i,(0≤i∧i<g.1)∧ydS l id=(ye3 id g G T L B i,true):=by
 obtain⟨b1,b2⟩:=yHj (fun(i:Nat)=>yh1 (nth l i yc) i id) (fun(i:Nat)=>(yas (nth l i yc) id).1) l.length;have e:ydS l id=(List.range l.length).foldl (fun s (i:Nat)=>ylQ s (yh1 (nth l i yc) i id) (yas (nth l i yc) id).1) (yeV,false):=rfl;rw[← e]at b1 b2;have hn:=hl.n;obtain⟨j,j0,j1,jf,je⟩:=hs.u3;obtain⟨k,rfl⟩: ∃k:Nat,j=k:=⟨j.toNat,by omega⟩;have hsl:=yW6 (yfF (hs.u0 k j0 j1)).1.1;have hsv:yxg id (G.tmod 2) (yyl l k (G.tmod 2)) (ye3 id g G T L B k):=by rw[je]; exact yyp (hs.u0 k j0 j1)
 have hown:=(yS1 hl hS hs hb j0 j1).2 jf ⟨_,_,hsl,hsv⟩;obtain⟨g1,g2⟩:=b2 k (by omega) hown
 have hb2: ∀n,0≤n→n<6→ya3 (nth l k yc) n=false:=fun n n0 n6=>by
  cases hx:ya3 (nth l k yc) n
  ·rfl
  ·have:=hb k n j0 j1 jf hx; omega
 have g3:=((yKN (id:=id) (hl.f k j0 j1) hS jf hb2).2 _ _ hsl hsv).2;obtain⟨i,hi,ho,e1⟩:=b1 g1;obtain⟨if0,_,n,hn2,hsv2⟩:=(yS1 hl hS hs hb (i:=i) (by omega) (by omega)).1 ho;have h3:=(hs.u1 i n _ (by omega) (by omega) if0 hn2 hsv2).2
 have hge:G≤(yas (nth l i yc) id).1.2.1:=by
  have e2:(ydS l id).1.2.1=(yas (nth l i yc) id).1.2.1:=by rw[e1]
  have e3:(ye3 id g G T L B k).2.1=G:=rfl;omega
 rcases h3 with h3 | h3
 ·omega
 ·exact⟨i,by omega,Prod.ext (e1.trans h3) g1⟩
theorem y2q {l:List dM} {id L B Lf:Int} (h1: ∀i:Nat,i<l.length→(i:Int)≠Lf→yh1 (nth l i yc) i id=true) (h2: ∀i:Nat,i<l.length→(i:Int)=Lf→yh1 (nth l i yc) i id=false→L= -1∨L=Lf) :
  ∀n,n≤l.length→(List.range n).foldl (ykr l id) (L,B,false)=bif leb 0 Lf&&(ltb Lf n&& !(yh1 (nth l Lf yc) Lf id))then(Lf,0,false)else(L,B,false)
 | 0,_=>by
  cases h0:leb 0 Lf
  ·rfl
  ·rw[zk1 (show((0:Nat):Int)≤Lf from zj5.1 h0)]; rfl
 | n+1,hn=>by
  rw[List.range_succ,List.foldl_append,List.foldl_cons,List.foldl_nil,y2q h1 h2 n (by omega)];by_cases hnL:(n:Int)=Lf
  ·subst hnL
   rw[zk0 (show(0:Int)≤n by omega),zk1 (Int.le_refl _),zkw (show(n:Int)<((n+1:Nat):Int)by omega)];simp only[Bool.true_and,Bool.false_and,cond_false];unfold ykr;cases ho:yh1 (nth l n yc) n id
   ·rcases h2 n (by omega) rfl ho with h3 | h3
    ·subst h3; rfl
    ·subst h3; rw[cond_false,beq_self_eq_true,Bool.or_true]; rfl
   ·rfl
  ·have ho:=h1 n (by omega) hnL
   have e:ltb Lf ((n+1:Nat):Int)=ltb Lf (n:Int):=by rw[Bool.eq_iff_iff,zj8,zj8]; omega
   rw[e];unfold ykr;rw[ho]; rfl
def ynr (id:Int) (g:dG) (G T Lf Bf:Int) (l:List dM):dA:=(id,g,l,Lf,Bf,T,T,G,[],-1,false,false)
theorem y5l {id:Int} {g:dG} {G T L B Lf Bf:Int} {l:List dM} (hl:FellAll g l) (hs:Wsup id g G T L B Lf Bf (yyl l) (flF l)) (hb: ∀i n,0≤i→i<g.1→flF l i=false→bdF l i n=true→6≤n) :
  yfY l id=(ynr id g G T Lf Bf l,true)∧yU (ynr id g G T Lf Bf l)∧yI (ynr id g G T Lf Bf l):=by
 obtain⟨j,j0,j1,jf,_⟩:=hs.u3;obtain⟨s1,s2,s3,s4,s5,s6,s7⟩:=yfF (hs.u0 j j0 j1);have hg:=yl.1 s2;have hS:1≤g.2:=by omega
 have hn:=hl.n;obtain⟨i,⟨i0,i1⟩,hbest⟩:=y32 hl hS hs hb;have ow:=fun i i0 i1=>yS1 hl hS hs hb (i:=i) i0 i1
 have hfold:(List.range l.length).foldl (ykr l id) (L,B,false)=(Lf,Bf,false):=by
  rw[y2q (Lf:=Lf) (fun i hi hne=>by
   obtain⟨k1,k2⟩:=hs.u2 i (by omega) (by omega) hne
   exact(ow i (by omega) (by omega)).2 k1 k2) (fun i hi he ho=>by
   rcases hs.u4 with⟨h1,_,h2⟩ | ⟨_,_,_,h4,_⟩
   ·exact .inr h1.symm
   ·exact h4) _ (Nat.le_refl _)]
  rcases hs.u4 with⟨h1,h2,h3⟩ | ⟨h1,h2,h3,h4,h5⟩
  ·rcases h3 with h3 | ⟨h3,h4⟩
   ·rw[zkZ (show Lf<0 by omega),Bool.false_and,cond_false,h1,h2]
   ·cases h0:leb 0 Lf
    ·rw[Bool.false_and,cond_false,h1,h2]
    ·have h0:=zj5.1 h0
     rw[(ow Lf h0 (by omega)).2 h3 h4,Bool.not_true,Bool.and_false,Bool.and_false,cond_false,h1,h2]
  ·have ho:yh1 (nth l Lf yc) Lf id=false:=by
    cases hx:yh1 (nth l Lf yc) Lf id
    ·rfl
    ·obtain⟨k1,k2,_⟩:=(ow Lf h1 h2).1 hx
     exact absurd ⟨k1,k2⟩ h3
   rw[zk0 h1,zkw (show Lf<((l.length:Nat):Int)by omega),ho,Bool.not_false,h5]; rfl
 have hall:yHL l id=ynr id g G T Lf Bf l:=by
  unfold yHL;rw[hbest];show yuE (ye3 id g G T L B i) l id ((List.range l.length).foldl (ykr l id) (L,B,false))=_;rw[hfold]; rfl
 have hL:(-1≤Lf∧Lf≤g.1-1)∧(0≤Bf∧Bf≤g.2)∧(Lf= -1→Bf=0):=by
  rcases hs.u4 with⟨h1,h2,_⟩ | ⟨h1,h2,_,_,h5⟩
  ·subst h1 h2; exact⟨s5,s6,fun h=>by omega⟩
  ·exact⟨by omega,by omega,fun h=>by omega⟩
 have hcore:yU (ynr id g G T Lf Bf l):=⟨s2,s3,rfl,hL.1,hL.2.1,hL.2.2,s4,⟨Int.le_refl _,s4.2⟩,by show T≤T+4; omega,s1.1,s1.2⟩
 have hkeep:yI (ynr id g G T Lf Bf l):=by
  refine⟨⟨fun k hk=> ?_,hn⟩,by show -1≤(-1:Int); omega,by show(-1:Int)≤1000; omega⟩;have hk:k<l.length:=hk;have hf:=hl.f k (by omega) (by omega);refine⟨hf.ok,hf.len,fun h=> .inl ?_⟩;show(k:Int)=Lf;by_cases e:(k:Int)=Lf
  ·exact e
  ·have:=(hs.u2 k (by omega) (by omega) e).1
   have h:flF l k=true:=h;rw[h]at this; cases this
 refine⟨?_,hcore,hkeep⟩;unfold yfY;rw[hall,hbest];show(bif true&&(((l.length:Int)==g.1)&&yae (ynr id g G T Lf Bf l))then(ynr id g G T Lf Bf l,true)else(yaJ,false))=_;rw[yC1.2 ⟨hcore,hkeep⟩,hn,beq_self_eq_true]; rfl
theorem y4U {α:Type} (p:α→Bool) (l:List α):leb 0 (yaj p l)=l.any p:=by
 unfold yaj;cases l.any p
 ·rfl
 ·exact zk0 (show(0:Int)≤((l.takeWhile (fun x=> !p x)).length:Int)by omega)
theorem yIx {id:Int} {g:dG} {G T L B Lf Bf:Int} {f:Int→Int→List Int} {fl fl':Int→Bool} (h:Wsup id g G T L B Lf Bf f fl) (e: ∀i,0≤i→i<g.1→fl' i=fl i):Wsup id g G T L B Lf Bf f fl':=by
 refine⟨h.u0,fun i n s i0 i1 hi=>h.u1 i n s i0 i1 ((e i i0 i1).symm.trans hi),fun i i0 i1 hne=> ?_,?_,?_⟩
 ·rw[e i i0 i1]; exact h.u2 i i0 i1 hne
 ·obtain⟨i,i0,i1,h3⟩:=h.u3
  exact⟨i,i0,i1,by rw[e i i0 i1]; exact h3⟩
 ·rcases h.u4 with⟨h1,h2,h3⟩ | ⟨h1,h2,h3⟩
  ·refine .inl ⟨h1,h2,?_⟩
   obtain⟨i,i0,i1,_⟩:=h.u3;have:=(yfF (h.u0 i i0 i1)).2.2.2.2.1;by_cases hm:Lf= -1
   ·exact .inl hm
   ·rw[e Lf (by omega) (by omega)]; exact h3
  ·refine .inr ⟨h1,h2,?_⟩
   rw[e Lf h1 h2]; exact h3
theorem yM0 {g:dG} {T Q:Int} {R:Int→Int×List Int} {V:Int→Int→Int} {Lf Bf:Int} {f:Int→Int→List Int} {fl fl':Int→Bool} {bd:Int→Int→Bool} (h:Wdat g T Q R V Lf Bf f fl bd) (e: ∀i,0≤i→i<g.1→fl' i=fl i):Wdat g T Q R V Lf Bf f fl' bd :=
 ⟨h.e,h.q,fun i s i0 i1 s0 s1 hi=>h.d i s i0 i1 s0 s1 ((e i i0 i1).symm.trans hi),fun q q0 q1=>by
  obtain⟨i,i0,i1,h3⟩:=h.r q q0 q1
  exact⟨i,i0,i1,by rw[e i i0 i1]; exact h3⟩,fun i n r i0 i1 hi=>h.h i n r i0 i1 ((e i i0 i1).symm.trans hi),h.v,h.l,fun i n i0 i1 hi=>h.b i n i0 i1 ((e i i0 i1).symm.trans hi)⟩
theorem yZL {a b:dA} (h:yz b=yz a):b.2.2.2.2.2.2.2.2.1=a.2.2.2.2.2.2.2.2.1:=congrArg (fun x=>x.2.2.2.2.2.2.2.1) h
theorem y4s (a:dA) (r:dN):(yp a r).2.2.2.2.2.2.2.2.1=a.2.2.2.2.2.2.2.2.1:=yZL (ya6 a r)
theorem y3f (a:dA) (s:Int) (d:List Int):(yB a s d).2.2.2.2.2.2.2.2.1=a.2.2.2.2.2.2.2.2.1:=yZL (yei a s d)
structure Way (id:Int) (g:dG) (G T L B Q:Int) (R:Int→Int×List Int) (V:Int→Int→Int) (Lf Bf:Int) (l0:List dM) (a:dA):Prop where
 e1:a.1=id
 e2:a.2.1=g
 e3:a.2.2.2.1=Lf
 e4:a.2.2.2.2.1=Bf
 e6:a.2.2.2.2.2.2.1=T
 e7:a.2.2.2.2.2.2.2.1=G
 e8:a.2.2.2.2.2.2.2.2.1= []
 e9:a.2.2.2.2.2.2.2.2.2.2.2=false
 kp:yI a
 st: ∀f,Ch a f→Wsup id g G T L B Lf Bf f (yF a)∧Wdat g T Q R V Lf Bf f (yF a) (yJ a)
 fl: ∀i,0≤i→i<g.1→yF a i=flF l0 i
 bd: ∀i m,0≤i→i<g.1→6≤m→(yJ a i m=true→bdF l0 i m=true)∧(T=Q→yJ a i m=bdF l0 i m)
structure Rp (id:Int) (g:dG) (G T L B Q:Int) (R:Int→Int×List Int) (V:Int→Int→Int) (Lf Bf:Int) (l0:List dM) (q:Int) (a:dA):Prop where
 w:Way id g G T L B Q R V Lf Bf l0 a
 q0:T≤q
 q1:q≤Q
 s:a.2.2.2.2.2.1=q
 u:ya a=false
 c: ∀i,0≤i→i<g.1→(yi a i).2.1.length≤1
 v: ∀i s,0≤i→i<g.1→0≤s→s<g.2→yaF a s i=true→(∀p,q≤p→p<Q→(R p).1≠s)→ycn (yi a i) (s+6)= [V s i]
section
variable {id:Int} {g:dG} {G T L B Q:Int} {R:Int→Int×List Int} {V:Int→Int→Int} {Lf Bf:Int} {l0:List dM}
theorem yHY (a:dA):Ch a (fun i n=>ycn (yi a i) n):=fun i n _ _ _=>yxO _ _
theorem y3S {q:Int} {a:dA} (h:Rp id g G T L B Q R V Lf Bf l0 q a):(q<Q→yaC a q=((q,R q),true))∧(q=Q→(yaC a q).2=false):=by
 have hst:=h.w.st _ (yHY a);obtain⟨hs,hd⟩:=hst;have hq:=hd.q;have hq0:=h.q0;have hlen:=h.w.kp.1.2;rw[h.w.e2]at hlen;have hsl:=ykU (q:=q) (by omega);obtain⟨j,j0,j1,_⟩:=hs.u3;have hgo:=(yfF (hs.u0 j j0 j1)).2.1;have hg:=yl.1 hgo
 have rd: ∀i:Nat,i<a.2.2.1.length→yIu a q i=bif yF a i then([],false)else(ycn (yi a i) (yh q),true):=fun i hi=>by
  have dk:=yeS h.w.kp (i:=i) (by omega) (by rw[h.w.e2]; omega);rw[h.w.e2]at dk;unfold yIu;cases hf:yF a i
  ·have hbf:ya3 (yi a i) (yh q)=false:=by
    cases hx:ya3 (yi a i) (yh q)
    ·rfl
    ·have:=hd.b i _ (by omega) (by omega) hf hx; omega
   have:=yTd dk.1 hf (n:=yh q) (zj4.2 (by omega));rw[hbf]at this; exact this
  ·have hf:(nth a.2.2.1 i yc).2.2.1=true:=hf
   unfold yQ yta;rw[hf,Bool.not_true,Bool.false_and,Bool.and_false]; rfl
 have hit: ∀i:Nat,i<a.2.2.1.length→ykS a q i=true→q<Q∧yrT a q i=(q,R q):=fun i hi hh=>by
  have r:=rd i hi;unfold ykS yrT at hh;unfold yrT;rw[r]at hh ⊢;cases hf:yF a i
  ·rw[hf]at hh
   simp only[cond_false,Bool.true_and,Bool.and_eq_true,beq_iff_eq]at hh ⊢;have e:yaE (ycn (yi a i) (yh q))=((yaE (ycn (yi a i) (yh q))).1,true):=Prod.ext rfl hh.1;obtain⟨k1,k2⟩:=hd.h i (yh q) _ (by omega) (by omega) hf hsl.1 hsl.2.1 e;have hse:=hh.2.1;rw[hse]at k1 k2;exact⟨k1,Prod.ext hse (k2 hq0)⟩
  ·rw[hf]at hh
   simp only[cond_true,Bool.false_and]at hh;cases hh
 refine⟨fun hlt=> ?_,fun he=> ?_⟩
 ·obtain⟨i,i0,i1,hi,e⟩:=hd.r q hq0 hlt
  obtain⟨k,rfl⟩: ∃k:Nat,i=k:=⟨i.toNat,by omega⟩;have hv:=hd.v q hq0 hlt;have hrk:=yMC (q:=q) (by omega) (by omega) hv.1 hv.2.1 hv.2.2;have hstr:=yW.1 hv.1
  have hh:ykS a q k=true:=by
   unfold ykS yrT;rw[rd k (by omega),hi];have e:ycn (yi a k) (yh q)=yac (q,R q):=e;rw[cond_false,e];show(true&&((yaE (yac (q,R q))).2&&((yaE (yac (q,R q))).1.1==q&&((leb 0 (yaE (yac (q,R q))).1.2.1&&leb (yaE (yac (q,R q))).1.2.1 (a.2.1.2-1))&&((yaE (yac (q,R q))).1.2.2.length:Int)==a.2.1.1-1))))=true;rw[yHl hrk,h.w.e2];show(true&&(true&&(q==q&&((leb 0 (R q).1&&leb (R q).1 (g.2-1))&&((R q).2.length:Int)==g.1-1))))=true;rw[zk0 hstr.2.1,zk0 hstr.2.2,hv.2.1,beq_self_eq_true,beq_self_eq_true]; rfl
  have hsome:(yaC a q).2=true:=by
   unfold yaC;rw[y4U,List.any_eq_true.2 ⟨k,List.mem_range.2 (by omega),hh⟩]; rfl
  obtain⟨m,hm,h1,h2⟩:=yQm hsome;exact Prod.ext (h2.trans (hit m hm h1).2) hsome
 ·cases hx:(yaC a q).2
  ·rfl
  ·obtain⟨m,hm,h1,_⟩:=yQm hx
   have:=(hit m hm h1).1; omega
theorem y6i {q:Int} {a:dA} (h:Way id g G T L B Q R V Lf Bf l0 a) (q0:T≤q) (q1:q<Q):Way id g G T L B Q R V Lf Bf l0 (yp a (q,R q)):=by
 have ok:=ybT h.kp;have ht:=yMZ (q,R q) ok;have hc:=ya6 a (q,R q);obtain⟨c1,c2,c3,c4,c5,c6,c7⟩:=ybq hc;have hq:=(h.st _ (yHY a)).2.q;have hsl:=ykU (q:=q) (by omega);have htf: ∀i,0≤i→i<g.1→yF (yp a (q,R q)) i=yF a i:=fun i i0 i1=>ht.f i i0 (by rw[h.e2]; exact i1)
 have htb: ∀i m,0≤i→i<g.1→6≤m→yJ (yp a (q,R q)) i m=yJ a i m:=fun i m i0 i1 m0=>ht.b i m i0 (by rw[h.e2]; exact i1) (fun e=>by have:m=yh q:=e; omega)
 refine⟨c1.trans h.e1,c2.trans h.e2,c3.trans h.e3,c4.trans h.e4,c6.trans h.e6,c7.trans h.e7,(y4s a (q,R q)).trans h.e8,(ysg hc).trans h.e9,yxT _ h.kp,fun f' hf=> ?_,fun i i0 i1=>(htf i i0 i1).trans (h.fl i i0 i1),fun i m i0 i1 m0=>by rw[htb i m i0 i1 m0]; exact h.bd i m i0 i1 m0⟩;obtain⟨f,hf0,hff⟩:=ht.c f' hf;rw[h.e2]at hff;obtain⟨h1,h2⟩:=h.st f hf0;have hfl: ∀i,0≤i→i<g.1→yF (yp a (q,R q)) i=false→yF a i=false:=fun i i0 i1 hi=>(htf i i0 i1).symm.trans hi
 refine⟨yIx (ygU h1 (fun i n i0 i1 _ hn=> ?_)) htf,yM0 (y5Q h2 q0 q1 (fun i n i0 i1 _ hn=>hff i n i0 i1 (by omega)) htb (fun i n i0 i1 hb=>ht.d i n i0 (by rw[h.e2]; exact i1) hb)) htf⟩;rcases hff i n i0 i1 (by omega)with e | ⟨e,_⟩
 ·exact e
 ·have:n=yh q:=e
  omega
theorem y5P {q:Int} {a:dA} (h:Way id g G T L B Q R V Lf Bf l0 a) (q0:T≤q) (q1:q<Q):Way id g G T L B Q R V Lf Bf l0 (yB a (R q).1 (R q).2):=by
 have ok:=ybT h.kp;have ht:=yTg (R q).1 (R q).2 ok;have hc:=yei a (R q).1 (R q).2;obtain⟨c1,c2,c3,c4,c5,c6,c7⟩:=ybq hc;have hst:=(h.st _ (yHY a)).2;have hs1:=yW.1 (hst.v q q0 q1).1;have hg:=yl.1 hs1.1;have hda:=yjb (s:=(R q).1) hs1.2.1 (by omega);have htf: ∀i,0≤i→i<g.1→yF (yB a (R q).1 (R q).2) i=yF a i:=fun i i0 i1=>ht.f i i0 (by rw[h.e2]; exact i1)
 refine⟨c1.trans h.e1,c2.trans h.e2,c3.trans h.e3,c4.trans h.e4,c6.trans h.e6,c7.trans h.e7,(y3f a _ _).trans h.e8,(ysg hc).trans h.e9,yGF _ _ h.kp,fun f' hf=> ?_,fun i i0 i1=>(htf i i0 i1).trans (h.fl i i0 i1),fun i m i0 i1 m0=>⟨fun hb=>(h.bd i m i0 i1 m0).1 (ht.d i m i0 (by rw[h.e2]; exact i1) hb),fun e=>by omega⟩⟩;obtain⟨f,hf0,hff⟩:=ht.c f' hf;rw[h.e2]at hff;obtain⟨h1,h2⟩:=h.st f hf0;refine⟨yIx (ygU h1 (fun i n i0 i1 _ hn=> ?_)) htf,yM0 (yfa h2 (fun i n i0 i1 hi hn=> ?_) (fun i n i0 i1 hb=>ht.d i n i0 (by rw[h.e2]; exact i1) hb)) htf⟩
 ·rcases hff i n i0 i1 (by omega)with e | ⟨e,_⟩
  ·exact e
  ·omega
 ·by_cases e:n=yy (R q).1
  ·exact .inr (.inl ⟨q,q0,q1,by omega⟩)
  ·rcases hff i n i0 i1 (by omega)with e2 | ⟨e2,_⟩
   ·exact .inl ⟨e2,ht.b i n i0 (by rw[h.e2]; exact i1) e⟩
   ·exact absurd e2 e
theorem y6g {q:Int} {a:dA} (h:Rp id g G T L B Q R V Lf Bf l0 q a) (hq:q<Q):Way id g G T L B Q R V Lf Bf l0 (yh7 a)∧(ya (yh7 a)=false→Way id g G T L B Q R V Lf Bf l0 (ykT a)∧(ya (ykT a)=false→Rp id g G T L B Q R V Lf Bf l0 (q+1) (ykT a))):=by
 have hfd:=(y3S h).1 hq;have e1:yh7 a=yp a (q,R q):=by unfold yh7; rw[h.s,hfd]
 have e2:ykT a=yB (yC (yp a (q,R q))) (R q).1 (R q).2:=by unfold ykT; rw[e1,h.s,hfd]
 rw[e1,e2];have w1:=y6i h.w h.q0 hq;refine⟨w1,fun hu1=> ?_⟩;have w2:Way id g G T L B Q R V Lf Bf l0 (yC (yp a (q,R q))):=⟨w1.e1,w1.e2,w1.e3,w1.e4,w1.e6,w1.e7,w1.e8,w1.e9,w1.kp,w1.st,w1.fl,w1.bd⟩;have w3:=y5P w2 h.q0 hq;refine⟨w3,fun hu2=> ?_⟩;have hst:=(h.w.st _ (yHY a)).2;have hv:=hst.v q h.q0 hq;have hs1:=yW.1 hv.1;have hg:=yl.1 hs1.1;have hqq:=hst.q;have hq0:=h.q0;have hlen:=h.w.kp.1.2;rw[h.w.e2]at hlen;have hl1:(yp a (q,R q)).2.2.1.length=a.2.2.1.length:=yIv a _;have hd1: ∀i,0≤i→i<g.1→yi (yp a (q,R q)) i=yE (yeo (yh q) (yac (q,R q)) (yi a i)):=fun i i0 i1=>yMW hu1 i0 (by omega)
 have dk: ∀i,0≤i→i<g.1→yv (yi a i)=true∧((yi a i).1.length:Int)=6+g.2:=fun i i0 i1=>by
  have:=yeS h.w.kp i0 (by rw[h.w.e2]; exact i1);rw[h.w.e2]at this; exact⟨this.1,this.2.1⟩
 have hsq:(yC (yp a (q,R q))).2.2.2.2.2.1=q+1:=by
  show i64.wrap ((yp a (q,R q)).2.2.2.2.2.1+1)=_;rw[yfZ (ya6 a (q,R q)),h.s]; exact wr (by omega) (by omega)
 have less1: ∀i,0≤i→i<g.1→yDC g.2 (yi a i) (yi (yp a (q,R q)) i):=fun i i0 i1=>by
  rw[hd1 i i0 i1];exact yIS (yRg (ykU (q:=q) (by omega)).2.1) (yCV (ypt (dk i i0 i1).1))
 have cac1: ∀i,0≤i→i<g.1→(yi (yp a (q,R q)) i).2.2.1=false→(yi (yp a (q,R q)) i).2.1= []:=fun i i0 i1 hf=>by
  rw[hd1 i i0 i1]at hf ⊢;rw[(ytd _).2]at hf;exact(yCO (ypt (dk i i0 i1).1) hf).1
 have cac2: ∀i,0≤i→i<g.1→(yi (yp a (q,R q)) i).2.1.length≤1:=fun i i0 i1=>by
  rw[hd1 i i0 i1];exact Nat.le_trans (yu5 (dk i i0 i1).1) (h.c i i0 i1)
 have hlq: ∀i,yak (yp a (q,R q)).2.2.2.1 (yp a (q,R q)).2.2.2.2.1 i=yak Lf Bf i:=fun i=>by rw[w1.e3,w1.e4]
 have hv1: ∀i s,0≤i→i<g.1→0≤s→s<g.2→yaF (yp a (q,R q)) s i=true→(∀p,q≤p→p<Q→(R p).1≠s)→ycn (yi (yp a (q,R q)) i) (s+6)= [V s i]:=fun i s i0 i1 s0 s1 hh hj=>by
  unfold yaF at hh;rw[hlq,Bool.and_eq_true,Bool.not_eq_true']at hh
  have hf:(yi (yp a (q,R q)) i).2.2.1=false:=by
   have:=hh.1;simp only[yak,Bool.and_eq_true,Bool.not_eq_true']at this; exact this.1
  obtain⟨g1,g2⟩:=less1 i i0 i1 hf;obtain⟨g3,g4⟩:=g2 (s+6) (by omega) (by omega) hh.2;rw[g4];refine h.v i s i0 i1 s0 s1 ?_ hj;unfold yaF;rw[h.w.e3,h.w.e4,g3];have:=hh.1;unfold yak at this ⊢;rw[hf]at this;rw[g1,this]; rfl
 have kd:yI (yC (yp a (q,R q))):=w2.kp
 have hd2: ∀i,0≤i→i<g.1→yi (yB (yC (yp a (q,R q))) (R q).1 (R q).2) i=yjc Lf Bf (yk g (R q).1) g.1 (R q).1 (R q).2 i (yi (yp a (q,R q)) i):=fun i i0 i1=>by
  have:=yDW (yQk (a:=yC (yp a (q,R q))) (R q).1 (R q).2 hu1) hu2 i0 (by show i<((yp a (q,R q)).2.2.1.length:Int); omega);rw[w2.e2,w2.e3,w2.e4]at this; exact this
 have hda:=yjb (s:=(R q).1) hs1.2.1 (by omega);refine⟨w3,by omega,by omega,(yfZ (yei _ _ _)).trans hsq,hu2,fun i i0 i1=> ?_,fun i s i0 i1 s0 s1 hh hj=> ?_⟩
 ·rw[hd2 i i0 i1]
  obtain⟨c1,c2⟩:=yPy Lf Bf (yk g (R q).1) g.1 (R q).1 (R q).2 i (yi (yp a (q,R q)) i);cases hf:(yi (yp a (q,R q)) i).2.2.1
  ·rw[cac1 i i0 i1 hf]at c1; exact c1
  ·rw[c2 hf]; exact cac2 i i0 i1
 ·unfold yaF at hh
  rw[w3.e3,w3.e4,hd2 i i0 i1,Bool.and_eq_true,Bool.not_eq_true']at hh;rw[hd2 i i0 i1];by_cases hs:s=(R q).1
  ·subst hs
   have hlv:yak Lf Bf i (R q).1 (yi (yp a (q,R q)) i)=true:=by
    have:=hh.1;unfold yak at this ⊢;rw[(yCR (S:=0) (-1) (by omega)).1]at this;exact this
   have hf:(yi (yp a (q,R q)) i).2.2.1=false:=by
    simp only[yak,Bool.and_eq_true,Bool.not_eq_true']at hlv; exact hlv.1
   have dk2:=yeS w1.kp i0 (by rw[w1.e2]; exact i1);rw[w1.e2]at dk2;unfold yjc;rw[hlv,cond_true,yn6 (yq4 dk2.1 hf (by rw[hda]; exact zj4.2 (by omega)) (yzE.2 ⟨by simp,fun x hx=> ?_⟩) (by rw[cac1 i i0 i1 hf]; decide)),hda,beq_self_eq_true,cond_true,hst.l q hq0 hq (fun p p0 p1=>hj p (by omega) p1) i i0 i1];rw[List.mem_singleton.1 hx];exact ypu.1 (yKR hv.2.2)
  ·obtain⟨e1,e2,e3⟩:=yCR (L:=Lf) (B:=Bf) (p:=yk g (R q).1) (N:=g.1) (s:=(R q).1) (i:=i) (d:=(R q).2) (S:=0) (m:=yi (yp a (q,R q)) i) (s+6) (by omega)
   rw[e3];refine hv1 i s i0 i1 s0 s1 ?_ (fun p p0 p1=> ?_)
   ·unfold yaF
    rw[hlq];rw[e2]at hh;have h2:=hh.1;unfold yak at h2 ⊢;rw[e1]at h2;rw[h2,hh.2]; rfl
   ·by_cases e:p=q
    ·subst e; exact fun e=>hs e.symm
    ·exact hj p (by omega) p1
theorem y51: ∀(k i:Nat) (q:Int) (a:dA),Rp id g G T L B Q R V Lf Bf l0 q a→Q≤q+k→(∀b,goE yqR .inl k i a= .inl b→Rp id g G T L B Q R V Lf Bf l0 Q b)∧ ∀b,goE yqR .inl k i a= .inr b→ya b=true∧Way id g G T L B Q R V Lf Bf l0 b
 | 0,i,q,a,h,hk=>by
  have hq:q=Q:=by have:=h.q1; omega
  refine⟨fun b hb=> ?_,fun b hb=> ?_⟩
  ·cases hb; subst hq; exact h
  ·cases hb
 | k+1,i,q,a,h,hk=>by
  have hf:=y3S h;have hq1:=h.q1;have hst:=(h.w.st _ (yHY a)).2.q;unfold goE yqR;by_cases hq:q=Q
  ·have h2:=hf.2 hq
   rw[h.s,h2];refine⟨fun b hb=> ?_,fun b hb=> ?_⟩
   ·cases hb; subst hq; exact h
   ·cases hb
  ·have h2:=hf.1 (by omega)
   obtain⟨w1,w2⟩:=y6g h (by omega);rw[h.s,h2,zkZ (show q<60000 by omega)];cases hu1:ya (yh7 a)
   ·obtain⟨w3,w4⟩:=w2 hu1
    cases hu2:ya (ykT a)
    ·exact y51 k (i+1) (q+1) (ykT a) (w4 hu2) (by omega)
    ·refine⟨(fun b hb=>by cases hb),fun b hb=> ?_⟩
     cases hb; exact⟨hu2,w3⟩
   ·refine⟨(fun b hb=>by cases hb),fun b hb=> ?_⟩
    cases hb; exact⟨hu1,w1⟩
end
structure Back (K id:Int) (g:dG) (V:Int→Int→Int) (Lf:Int) (l:List dM) (x:dA):Prop where
 bi:x.1=id
 bg:x.2.1=g
 bl:x.2.2.2.1=Lf
 bc:x.2.2.2.2.2.2.2.2.1= []
 bb:x.2.2.2.2.2.2.2.2.2.2.2=false
 bk:yI x
 bf: ∀i,0≤i→i<g.1→yF x i=flF l i
 be: ∀i m,0≤i→i<g.1→6≤m→yJ x i m=true→bdF l i m=true
 dn:ya x=true→ ∀f,Ch x f→WW K id g V Lf f (yF x) (yJ x)
 up:ya x=false→Ix K V x∧Rob x.2.2.2.2.1 V x∧x.2.2.2.2.2.2.1=x.2.2.2.2.2.1∧(x.2.2.2.1≠ -1→yF x x.2.2.2.1=true→x.2.2.2.2.1=0)
theorem yZR {l:List dM} (ks:List Int) {i:Int} (i0:0≤i) (i1:i<(l.length:Int)):nth (yaf l ks) i yc=yd2 (nth l i yc) (yH6 ks i.toNat):=by
 obtain⟨k,rfl⟩: ∃k:Nat,i=k:=⟨i.toNat,by omega⟩;unfold yaf;rw[zkQ,zkH (by rw[List.length_map,List.length_range]; omega),List.getElem_map,List.getElem_range]; rfl
theorem y4G (b:dA):(yq b).2.2.2.2.2.2.2.2.2.2.2=b.2.2.2.2.2.2.2.2.2.2.2:=by
 have h1:=ysg (yaL b);unfold yq;cases ya (ye b)
 ·exact(ysg (yjd (yV (ye b)))).trans h1
 ·exact h1
theorem y2X {K id:Int} {g:dG} {G T L B Q:Int} {R:Int→Int×List Int} {V:Int→Int→Int} {Lf Bf:Int} {l:List dM} {ks:List Int} {fuse:Int} (hn:(l.length:Int)=g.1) (hm: ∀i,0≤i→i<g.1→yv (nth l i yc)=true∧((nth l i yc).1.length:Int)=6+g.2) (hG:G≤K) (hQ:Q≤K) (hK:K+1≤60000) (hfu: -1≤fuse∧fuse≤1000)
  (hs:Wsup id g G T L B Lf Bf (yyl (yaf l ks)) (flF l)) (hd:Wdat g T Q R V Lf Bf (yyl (yaf l ks)) (flF l) (bdF l)) :
  ∃x,ylC l ks id fuse=(x,true)∧Back (K+1) id g V Lf l x∧x.2.2.2.2.1=Bf∧(T=Q→ ∀i m,0≤i→i<g.1→6≤m→yJ x i m=bdF l i m):=by
 have hfn:=fun i i0 i1=>yZR (l:=l) ks (i:=i) i0 i1
 have hfr: ∀i,0≤i→i<g.1→(nth (yaf l ks) i yc).2.1= []∧(nth (yaf l ks) i yc).2.2=(nth l i yc).2.2∧(nth (yaf l ks) i yc).1.length=(nth l i yc).1.length:=fun i i0 i1=>by
  rw[hfn i i0 (by omega)]; exact yZS (hm i i0 i1).1 _
 have hFA:FellAll g (yaf l ks):=⟨by unfold yaf; rw[List.length_map,List.length_range]; exact hn,fun i i0 i1=>⟨by rw[hfn i i0 (by omega)]; exact y58 (hm i i0 i1).1 _,by rw[(hfr i i0 i1).2.2]; exact(hm i i0 i1).2,(hfr i i0 i1).1⟩⟩;have hfl: ∀i,0≤i→i<g.1→flF (yaf l ks) i=flF l i:=fun i i0 i1=>by unfold flF; rw[(hfr i i0 i1).2.1]
 have hbd: ∀i m,0≤i→i<g.1→bdF (yaf l ks) i m=bdF l i m:=fun i m i0 i1=>by unfold bdF ya3; rw[(hfr i i0 i1).2.1]
 have hs2:=yIx hs hfl;obtain⟨hasm,hcore,hkeep⟩:=y5l hFA hs2 (fun i n i0 i1 hf hb=>hd.b i n i0 i1 ((hfl i i0 i1).symm.trans hf) (by rw[← hbd i n i0 i1]; exact hb));have hcoreq:yz (yh2 (ynr id g G T Lf Bf (yaf l ks)) fuse false)=yz (ynr id g G T Lf Bf (yaf l ks)):=rfl;obtain⟨a0,ha0⟩: ∃a0,a0=yh2 (ynr id g G T Lf Bf (yaf l ks)) fuse false:=⟨_,rfl⟩;have hk0:yI a0:=by rw[ha0]; exact⟨hkeep.1,hfu⟩
 have hc0:yU a0:=by rw[ha0]; exact yC2 hcoreq hcore
 have hdk: ∀i,yi a0 i=nth (yaf l ks) i yc:=fun i=>by rw[ha0]; rfl
 have hrec:ylC l ks id fuse=(yMD a0,true):=by
  unfold ylC;rw[hasm];show(yme (bif leb (-1) fuse&&leb fuse 1000 then yh2 (ynr id g G T Lf Bf (yaf l ks)) fuse false else ynr id g G T Lf Bf (yaf l ks)),true)=_;rw[zk0 hfu.1,zk0 hfu.2];show(yme (yh2 (ynr id g G T Lf Bf (yaf l ks)) fuse false),true)=_;rw[← ha0];unfold yme;rw[yC1.2 ⟨hc0,hk0⟩];have e1:ya a0=false:=by rw[ha0]; rfl
  have e2:a0.2.2.2.2.2.2.2.2.2.2.2=false:=by rw[ha0]; rfl
  have e3:a0.2.2.2.2.2.2.2.1=G:=by rw[ha0]; rfl
  rw[e1,e2,e3,zkw (show G<60000 by omega)]; rfl
 have hst: ∀f,Ch a0 f→ ∀i n,0≤i→i<g.1→0≤n→f i n=yyl (yaf l ks) i n:=fun f hf i n i0 i1 n0=>by
  rcases hf i n i0 (by rw[ha0]; exact i1) n0 with h | ⟨w,hw,_⟩
  ·rw[h,hdk]; rfl
  ·rw[hdk,(hfr i i0 i1).1]at hw; cases hw
 have hflA: ∀i,0≤i→i<g.1→yF a0 i=flF l i:=fun i i0 i1=>by unfold yF; rw[hdk]; exact hfl i i0 i1
 have hbdA: ∀i m,0≤i→i<g.1→yJ a0 i m=bdF l i m:=fun i m i0 i1=>by unfold yJ; rw[hdk]; exact hbd i m i0 i1
 have way:Way id g G T L B Q R V Lf Bf l a0:=by
  refine⟨by rw[ha0]; rfl,by rw[ha0]; rfl,by rw[ha0]; rfl,by rw[ha0]; rfl,by rw[ha0]; rfl,by rw[ha0]; rfl,by rw[ha0]; rfl,by rw[ha0]; rfl,hk0,fun f hf=>⟨?_,?_⟩,hflA,fun i m i0 i1 _=>⟨fun h=>by rw[← hbdA i m i0 i1]; exact h,fun _=>hbdA i m i0 i1⟩⟩
  ·exact yIx (ygU hs (fun i n i0 i1 _ hn=>hst f hf i n i0 i1 (by omega))) hflA
  ·exact yM0 (yfa hd (fun i n i0 i1 _ hn=> .inl ⟨hst f hf i n i0 i1 (by omega),hbdA i n i0 i1⟩) (fun i n i0 i1 h=>by rw[← hbdA i n i0 i1]; exact h)) hflA
 have hq:=hd.q
 have rp:Rp id g G T L B Q R V Lf Bf l T a0:=by
  refine⟨way,Int.le_refl _,hq.2.1,by rw[ha0]; rfl,by rw[ha0]; rfl,fun i i0 i1=>by rw[hdk,(hfr i i0 i1).1]; exact Nat.zero_le _,fun i s i0 i1 s0 s1 hh hj=> ?_⟩;unfold yaF at hh;rw[way.e3,way.e4,Bool.and_eq_true,Bool.not_eq_true']at hh;have h1:=hh.1;simp only[yak,Bool.and_eq_true,Bool.not_eq_true',Bool.or_eq_true,bne_iff_ne,ne_eq,zj8]at h1
  have hc:ycn (yi a0 i) (s+6)=yyl (yaf l ks) i (s+6):=by
   unfold ycn;rw[hdk,(hfr i i0 i1).1]; rfl
  rw[hc];exact hd.d i s i0 i1 s0 s1 ((hflA i i0 i1).symm.trans h1.1) h1.2 ((hbdA i (s+6) i0 i1).symm.trans hh.2) hj
 obtain⟨g1,g2⟩:=y51 4 0 T a0 rp (by omega);refine⟨yMD a0,hrec,?_⟩;unfold yMD;cases hgo:goE yqR .inl 4 0 a0 with
 | inr b =>
  obtain⟨hdn,w⟩:=g2 b hgo
  exact⟨⟨w.e1,w.e2,w.e3,w.e8,w.e9,w.kp,w.fl,fun i m i0 i1 m0=>(w.bd i m i0 i1 m0).1,fun _ f hf=>by
   obtain⟨h1,h2⟩:=w.st f hf
   exact⟨G,T,L,B,Q,R,Bf,by omega,by omega,h1,h2⟩,fun hu=>by rw[hdn]at hu; cases hu⟩,w.e4,fun e i m i0 i1 m0=>(w.bd i m i0 i1 m0).2 e⟩
 | inl b =>
  have r:=g1 b hgo;have w:=r.w;obtain⟨j,j0,j1,_⟩:=hs.u3;obtain⟨s1,s2,s3,s4,s5,s6,s7⟩:=yfF (hs.u0 j j0 j1);have hL:(-1≤Lf∧Lf≤g.1-1)∧(0≤Bf∧Bf≤g.2)∧(Lf= -1→Bf=0):=⟨hcore.2.2.2.1,hcore.2.2.2.2.1,hcore.2.2.2.2.2.1⟩
  have hcb:yU b:=by
   unfold yU;rw[w.e1,w.e2,w.e3,w.e4,w.e6,w.e7,w.e8,r.s];exact⟨s2,s3,rfl,hL.1,hL.2.1,hL.2.2,s4,⟨hq.2.1,hq.2.2.2⟩,hq.2.2.1,s1.1,s1.2⟩
  have hwd:=fun f hf=>w.st f hf
  have hix:Ix K V b:=⟨hcb,w.kp,r.u,w.e9,by rw[w.e7]; exact hG,by rw[r.s]; exact hQ,by rw[w.e2]; exact hd.e,fun i s i0 i1 s0 s1 hh=>by
   rw[w.e2]at i1 s1;exact r.v i s i0 i1 s0 s1 hh (fun p p0 p1=>by omega),fun i i0 i1=>by
   rw[w.e2]at i1;have:=r.c i i0 i1
   have h0:(0:Int)≤bif i==b.2.2.2.1 then b.2.2.2.2.1 else 0:=by
    rw[w.e4];cases(i==b.2.2.2.1)
    ·exact Int.le_refl _
    ·exact hL.2.1.1
   omega⟩
  have hz:b.2.2.2.1≠ -1→yF b b.2.2.2.1=true→b.2.2.2.2.1=0:=fun h1 h2=>by
   obtain⟨k1,_⟩:=hwd _ (yHY b);rw[w.e3]at h1 h2;rw[w.e4];rcases k1.u4 with⟨_,_,k3⟩ | ⟨_,_,_,_,k3⟩
   ·rcases k3 with k3 | ⟨k3,_⟩
    ·exact absurd k3 h1
    ·rw[h2]at k3; cases k3
   ·exact k3
  have old: ∀f,Ch b f→ ∃Bg,Wsup b.1 b.2.1 b.2.2.2.2.2.2.2.1 T L B b.2.2.2.1 Bg f (yF b)∧Wdat b.2.1 T b.2.2.2.2.2.1 R V b.2.2.2.1 Bg f (yF b) (yJ b):=fun f hf=>by
   rw[w.e1,w.e2,w.e3,w.e7,r.s];exact⟨Bf,hwd f hf⟩
  obtain⟨c1,c2,c3,c4,c5⟩:=yCN b;have hcb2:=fun i m i0 i1 m0=>yyO (b:=b) (m:=m) w.kp (i:=i) i0 (by rw[w.e2]; exact i1) m0
  have hfc: ∀i,0≤i→i<g.1→yF (yq b) i=yF b i:=fun i i0 i1=>(hcb2 i 2 i0 i1 (by omega)).2
  refine⟨⟨c1.trans w.e1,c2.trans w.e2,c3.trans w.e3,(yPt b).trans w.e8,(y4G b).trans w.e9,yCT w.kp,fun i i0 i1=>(hfc i i0 i1).trans (w.fl i i0 i1),fun i m i0 i1 m0 hb=> ?_,fun _ f hf=> ?_,fun hu=>⟨yRf hix hK hu,⟨R,yZI hix hz hK hu old⟩,?_,?_⟩⟩,c4.trans w.e4,fun e i m i0 i1 m0=> ?_⟩
  ·rw[(hcb2 i m i0 i1 (by omega)).1]at hb
   exact(w.bd i m i0 i1 m0).1 hb
  ·have hlr:Lf= -1∨(0≤Lf∧Lf<g.1):=by omega
   have ht:=yUk (Lf:=Lf) (fl:=yF b) hix (by omega) hf (fun i _ _ h=>h) (.inl w.e3.symm) (fun f hf=>by
    have:=old f hf
    rw[w.e3]at this; exact this)
   rw[w.e1,w.e2]at ht;obtain⟨G',T',L',B',Q',R',Bf',k1,k2,k3,k4⟩:=ht;exact⟨G',T',L',B',Q',R',Bf',k1,k2,yIx k3 hfc,yM0 k4 hfc⟩
  ·rw[(yZJ (b:=b) (by rw[w.e7]; omega) hu).1,c5]
  ·intro h1 h2
   rw[c3]at h1 h2;rw[c4];rw[hfc _ (by rw[w.e3]at h1 ⊢; omega) (by rw[w.e3]; omega)]at h2;exact hz h1 h2
  ·rw[(hcb2 i m i0 i1 (by omega)).1]
   exact(w.bd i m i0 i1 m0).2 e
def Can (K:Int) (P:(Int→Int→Int)→Int→Prop) (a:dA):Prop:= ∀f,Ch a f→ ∃V Lf,P V Lf∧WW K a.1 a.2.1 V Lf f (yF a) (yJ a)
theorem y4F {K:Int} {VS:(Int→Int→Int)→Prop} {a:dA} (h:Dd K VS a):Can K (fun V Lf=>VS V∧Lf=a.2.2.2.1) a:=fun f hf=>by
 obtain⟨V,h1,h2⟩:=h f (yF a) a.2.2.2.1 hf (yML a);exact⟨V,_,⟨h1,rfl⟩,h2⟩
theorem y6q {K:Int} {V:Int→Int→Int} {a:dA} (h:Lv K V a):Can K (fun W Lf=>W=V∧Lf=a.2.2.2.1) a:=by
 obtain⟨B0,hr⟩:=h.r;exact y4F (yW5 hr h.x.xg h.x.xs)
theorem yQh {K J:Int} {P Q:(Int→Int→Int)→Int→Prop} {a:dA} (h:Can K P a) (hj:K≤J) (hp: ∀V L,P V L→Q V L):Can J Q a:=fun f hf=>by
 obtain⟨V,L,h1,h2⟩:=h f hf;exact⟨V,L,hp V L h1,y3X h2 hj⟩
theorem y3D: ∀(k i:Nat) (a:dA),ycN a→(∀b,goE yqR .inl k i a= .inl b→ycN b)∧ ∀b,goE yqR .inl k i a= .inr b→ycN b
 | 0,_,a,h=>⟨fun b hb=>by cases hb; exact h,fun b hb=>by cases hb⟩
 | k+1,i,a,h=>by
  have h1:ycN (yh7 a):=y2y _ h;have h2:ycN (ykT a):=yZU (a:=yC (yh7 a)) _ _ h1;unfold goE yqR;cases(!(yaC a a.2.2.2.2.2.1).2||leb 60000 a.2.2.2.2.2.1)
  ·rw[h1.1,h2.1]
   exact y3D k (i+1) (ykT a) h2
  ·exact⟨fun b hb=>by cases hb; exact h,fun b hb=>by cases hb⟩
theorem y3j {a:dA} (h:ycN a):ycN (yme a):=by
 unfold yme;cases(yae a&&(!(ya a)&&(!a.2.2.2.2.2.2.2.2.2.2.2&&ltb a.2.2.2.2.2.2.2.1 60000)))
 ·exact h
 ·obtain⟨h1,h2⟩:=y3D 4 0 a h
  show ycN (yMD a);unfold yMD;cases hg:goE yqR .inl 4 0 a with
  | inl b=>exact y4d (h1 b hg)
  | inr b=>exact h2 b hg
theorem y5k (l:List dM) (id:Int):ya (yfY l id).1=false:=by
 unfold yfY;cases((ydS l id).2&&((l.length:Int)==(ydS l id).1.2.2.2.1&&yae (yHL l id)))<;>rfl
theorem y4t {l:List dM} {ks:List Int} {id:Int} {x:dA} (h:ylC l ks id (-1)=(x,true)):ya x=false:=by
 have hd:=y5k (yaf l ks) id;unfold ylC at h;generalize yfY (yaf l ks) id=A at h hd;rw[zk0 (show(-1:Int)≤ -1 by omega),zk0 (show(-1:Int)≤1000 by omega),Bool.and_self,cond_true]at h;have hf:ycN (yh2 A.1 (-1) (ya A.1)):=⟨hd,rfl⟩;have hr:=(y3j hf).1;generalize yme (yh2 A.1 (-1) (ya A.1))=Z at h hr;cases ha:A.2
 ·rw[ha,cond_false]at h
  exact absurd (congrArg (fun z=>z.2) h) (by simp)
 ·rw[ha,cond_true]at h
  have h:=congrArg (fun z=>z.1) h;simp only at h;rw[← h]; exact hr
theorem y2Y {K m:Int} {P:(Int→Int→Int)→Prop} {a:dA} (hk:yI a) (h:Dd K P a) (hK:K+1≤60000) (hl:a.2.2.2.1= -1∨a.2.2.2.1=m) (m0:0≤m) (m1:m<a.2.1.1) (ks:List Int) :
  ∃x W,ylC (a.2.2.1.set m.toNat (yao (yi a m))) ks a.1 (-1)=(x,true)∧P W∧Back (K+1) a.1 a.2.1 W m (a.2.2.1.set m.toNat (yao (yi a m))) x∧ ∀i,0≤i→i<a.2.1.1→flF (a.2.2.1.set m.toNat (yao (yi a m))) i=(yF a i||i==m)∧ ∀n,bdF (a.2.2.1.set m.toNat (yao (yi a m))) i n=yJ a i n:=by
 have hn:=hk.1.2;have hd: ∀i,0≤i→nth (a.2.2.1.set m.toNat (yao (yi a m))) i yc=bif m==i then yao (yi a m)else yi a i:=fun i i0=>yxV (zj4.2 (by omega)) i0
 have hfl: ∀i,0≤i→flF (a.2.2.1.set m.toNat (yao (yi a m))) i=(yF a i||i==m):=fun i i0=>by
  unfold flF yF;rw[hd i i0];by_cases e:m=i
  ·subst e; rw[beq_self_eq_true,Bool.or_true]; rfl
  ·rw[show(m==i)=false from beq_eq_false_iff_ne.2 e,show(i==m)=false from beq_eq_false_iff_ne.2 (fun e2=>e e2.symm),Bool.or_false]; rfl
 have hbd: ∀i n,0≤i→bdF (a.2.2.1.set m.toNat (yao (yi a m))) i n=yJ a i n:=fun i n i0=>by
  unfold bdF yJ;rw[hd i i0];by_cases e:m=i
  ·subst e; rw[beq_self_eq_true]; rfl
  ·rw[show(m==i)=false from beq_eq_false_iff_ne.2 e]; rfl
 have hm: ∀i,0≤i→i<a.2.1.1→yv (nth (a.2.2.1.set m.toNat (yao (yi a m))) i yc)=true∧((nth (a.2.2.1.set m.toNat (yao (yi a m))) i yc).1.length:Int)=6+a.2.1.2:=fun i i0 i1=>by
  obtain⟨d1,d2,_⟩:=yeS hk i0 i1;rw[hd i i0];by_cases e:m=i
  ·subst e; rw[beq_self_eq_true]; exact⟨yMS d1,d2⟩
  ·rw[show(m==i)=false from beq_eq_false_iff_ne.2 e]; exact⟨d1,d2⟩
 have hlen:((a.2.2.1.set m.toNat (yao (yi a m))).length:Int)=a.2.1.1:=by rw[List.length_set]; exact hn
 have hch:Ch a (yyl (yaf (a.2.2.1.set m.toNat (yao (yi a m))) ks)):=fun i n i0 i1 n0=>by
  unfold yyl;rw[yZR ks i0 (by omega)];have:=y5t (hm i i0 i1).1 (yH6 ks i.toNat) n0
  have key: ∀v,yla (nth (a.2.2.1.set m.toNat (yao (yi a m))) i yc) n v→yla (yi a i) n v:=fun v hv=>by
   rw[hd i i0]at hv;by_cases e:m=i
   ·subst e; rw[beq_self_eq_true]at hv; exact yZ5 hv
   ·rw[show(m==i)=false from beq_eq_false_iff_ne.2 e]at hv; exact hv
  exact key _ this
 obtain⟨W,hP,G,T,L,B,Q,R,Bf,h1,h2,h3,h4⟩:=h _ (flF (a.2.2.1.set m.toNat (yao (yi a m)))) m hch (.inr ⟨m0,m1,hl,fun i i0 _=>hfl i i0⟩);obtain⟨x,e,b,_⟩:=y2X (ks:=ks) (fuse:= -1) hlen hm h1 h2 hK (by omega) h3 (yfa h4 (fun i n i0 _ _ _=> .inl ⟨rfl,hbd i n i0⟩) (fun i n i0 _ hb=>by rw[hbd i n i0]at hb; exact hb));exact⟨x,W,e,hP,b,fun i i0 _=>⟨hfl i i0,fun n=>hbd i n i0⟩⟩
theorem y2F {K m:Int} {V:Int→Int→Int} {a:dA} (h:Ix K V a) (hc:yHP a m=true) (hl:a.2.2.2.1= -1∨a.2.2.2.1=m) {i s:Int} (i0:0≤i) (i1:i<a.2.1.1) (hi:i≠m) (s0:0≤s):i≠a.2.2.2.1∧yF a i=false∧yJ a i (s+6)=false:=by
 refine⟨by omega,?_,?_⟩
 ·cases hf:yF a i
  ·rfl
  ·have:=y4g h i0 i1 hf; omega
 ·have hn:=h.xk.1.2
  unfold yHP at hc;rw[List.all_eq_true]at hc;have:=hc i.toNat (List.mem_range.2 (by omega));rw[Int.toNat_of_nonneg i0,show(i==m)=false from beq_eq_false_iff_ne.2 hi,Bool.false_or,Bool.not_eq_true']at this;cases hb:yJ a i (s+6)
  ·rfl
  ·obtain⟨x,hx,e⟩:=List.any_eq_true.1 (show(yi a i).2.2.2.any (· ==(s+6))=true from hb)
   have hs:yhS (yi a i)=true:=List.any_eq_true.2 ⟨x,hx,zk0 (by have:=beq_iff_eq.1 e; omega)⟩;have this:yhS (yi a i)=false:=this;rw[hs]at this; cases this
theorem yU4 {a:dA} (s:Int) (d:List Int) (h:yI a):yI (yA a s d).2:=by
 have hc:yI (yw a):=by
  unfold yw;cases leb 4 (i64.wrap (a.2.2.2.2.2.1-a.2.2.2.2.2.2.1))
  ·exact h
  ·exact yCT h
 unfold yA;have hr:=yxT ((yw a).2.2.2.2.2.1,s,d) hc;generalize yp (yw a) ((yw a).2.2.2.2.2.1,s,d)=R at hr ⊢;have hq:yI (yB (yC R) s d):=yGF (a:=yC R) s d hr;generalize yB (yC R) s d=Q at hq ⊢;cases ya (yw a)
 ·cases ya R
  ·exact hq
  ·exact hr
 ·exact hc
theorem yU3 {a:dA} (s:Int) (h:yI a):yI (yaW a s).2:=by
 unfold yaW;cases ltb (yan a.2.2.2.2.2.2.2.2.1 s) 0
 ·generalize (nth a.2.2.2.2.2.2.2.2.1 (yan a.2.2.2.2.2.2.2.2.1 s) (0,[])).2=D
  have hw:=yU4 s D h;cases(yO a s D !=0)
  ·cases((yA a s D).1==0)
   ·exact hw
   ·exact hw
  ·exact h
 ·exact h
theorem y2C: ∀(k i:Nat) (a:dA),yI a→yI (goE ymq (fun b=>(0,b)) k i a).2
 | 0,_,_,h=>h
 | k+1,i,a,h=>by
  have hf:=yU3 (nth a.2.2.2.2.2.2.2.2.1 0 (0,[])).1 h;unfold goE ymq;cases hc:((yaW a (nth a.2.2.2.2.2.2.2.2.1 0 (0,[])).1).1 !=0)
  ·exact y2C k (i+1) _ hf
  ·exact hf
theorem y1j {a:dA} {m:Int} (h:yI a) (hl:a.2.2.2.1= -1) (hm:inb m a.2.2.1.length=true):yI (yax a m):=by
 have hmi:=zj4.1 hm;obtain⟨⟨g1,g2⟩,g3⟩:=h;refine⟨⟨?_,?_⟩,g3⟩
 ·show yGH m a.2.2.2.2.2.2.2.2.2.2.2 a.2.1.2 (a.2.2.1.set m.toNat (yao (nth a.2.2.1 m yc)))
  refine yn9 (fun i hi=> ?_) (fun hi=> ?_)
  ·obtain⟨e1,e2,e3⟩:=g1 i hi
   refine⟨e1,e2,fun e=> ?_⟩;rcases e3 e with e | e
   ·omega
   ·exact .inr e
  ·have:=g1 m.toNat hi
   rw[Int.toNat_of_nonneg hmi.1]at this;exact⟨yMS this.1,this.2.1,fun _=> .inl (Int.toNat_of_nonneg hmi.1)⟩
 ·show((a.2.2.1.set m.toNat (yao (nth a.2.2.1 m yc))).length:Int)=a.2.1.1
  rw[List.length_set]; exact g2
theorem y1k {a:dA} (h:yI a) (hgo:yd a.2.1=true):yI (yaa a):=by
 obtain⟨⟨g1,g2⟩,g3⟩:=h;have hg:=yl.1 hgo;refine⟨⟨yn9 g1 (fun hi=>⟨yLC (by omega) (by omega),?_,fun e=> ?_⟩),?_⟩,g3⟩
 ·unfold ya9
  rw[zk0 (show 1≤6+a.2.1.2 by omega),zk0 (show 6+a.2.1.2≤20 by omega)];show((List.replicate (6+a.2.1.2).toNat ([]:List Int)).length:Int)=6+a.2.1.2;rw[List.length_replicate]; omega
 ·unfold ya9 at e
  rw[zk0 (show 1≤6+a.2.1.2 by omega),zk0 (show 6+a.2.1.2≤20 by omega)]at e;cases e
 ·show((a.2.2.1.set a.2.2.2.1.toNat (ya9 (6+a.2.1.2))).length:Int)=a.2.1.1
  rw[List.length_set]; exact g2
theorem y3n {a b:dA} (h:yI a) (hgo:yd a.2.1=true) (ht:Turned a b):yI b:=by
 cases ht with
 | same=>exact h
 | put b x hb hx=>unfold yrg; cases(ybR a (yY a.2.1 b)).2<;>exact h
 | flush s=>exact yU3 s h
 | all=>exact y2C _ 0 a h
 | fail m hl hm =>
  have hf:=y1j h hl hm;unfold yia;rw[show(a.2.2.2.1== -1)=true from beq_iff_eq.2 hl];show yI (bif(!(ya a)&&(!a.2.2.2.2.2.2.2.2.2.2.2&&ltb a.2.2.2.2.2.2.2.1 60000))then yD (yax a m)else yax a m);cases(!(ya a)&&(!a.2.2.2.2.2.2.2.2.2.2.2&&ltb a.2.2.2.2.2.2.2.1 60000))
  ·exact hf
  ·exact yzr hf
 | spare _ _=>exact yzr (y1k h hgo)
 | step hl _ _ =>
  have hp:yI (yaK a):=yxS h hl;unfold yfT;cases(yR a a.2.2.2.2.1).2
  ·exact h
  ·generalize yaK a=R at hp ⊢
   cases ya R
   ·exact hp
   ·exact hp
 | check=>exact yCT h
 | spoil m s _ hm _ _=>exact yrb h hm (fun g=>⟨yTe _ g.1,by rw[(yoz _ _).1]; exact g.2.1,by rw[(yoz _ _).2]; exact g.2.2⟩)
theorem yU5 (p:Nat→Bool): ∀n,decide (ynB p n=0)=(List.range n).all p
 | 0=>rfl
 | n+1=>by
  rw[List.range_succ,List.all_append,← yU5 p n,yCU];cases hp:p n
  ·simp[hp]
  ·simp[hp]
theorem yZZ {p:Nat→Bool}: ∀{n:Nat} {j:Nat},ynB p n<2→j<n→p j=false→ ∀i,i<n→i≠j→p i=true
 | 0,j,_,hj,_=>absurd hj (Nat.not_lt_zero _)
 | n+1,j,h,hj,hp=>fun i hi hij=>by
  rw[yCU]at h
  have z: ∀{k:Nat},ynB p n=0→k<n→p k=true:=fun{k} h0 hk=>by
   have:decide (ynB p n=0)=true:=decide_eq_true h0;rw[yU5,List.all_eq_true]at this;exact this k (List.mem_range.2 hk)
  cases hn:p n
  ·rw[hn,cond_false]at h
   have h0:ynB p n=0:=by omega
   by_cases hjn:j=n
   ·exact z h0 (by omega)
   ·have:=z (k:=j) h0 (by omega)
    rw[hp]at this; cases this
  ·rw[hn,cond_true]at h
   have hjn:j≠n:=fun e=>by rw[e,hn]at hp; cases hp
   by_cases hin:i=n
   ·rw[hin]; exact hn
   ·exact yZZ h (by omega) hp i (by omega) hij
theorem y5I {B0:Int} {V:Int→Int→Int} {v:List Int} {a:dA} (hk:yI a) (hu:ya a=false) (hm:inb a.2.2.2.1 a.2.2.1.length=true) (hb0:0≤a.2.2.2.2.1) (hb1:a.2.2.2.2.1<1000) (h:Rob B0 V a):Rob B0 V (yby a a.2.2.2.1 (yy a.2.2.2.2.1) v):=by
 obtain⟨R,hB,hr⟩:=h;have hmi:=zj4.1 hm;have hlen:=hk.1.2;have hda:=yjb hb0 (by omega);have hd:=yC3 (yy a.2.2.2.2.1) v hu hm
 have ho: ∀i,0≤i→i≠a.2.2.2.1→yi (yby a a.2.2.2.1 (yy a.2.2.2.2.1) v) i=yi a i:=fun i i0 hi=>by
  rcases hd.2.2 with⟨_,e⟩ | ⟨_,e⟩
  ·rw[e i i0,show(a.2.2.2.1==i)=false from beq_eq_false_iff_ne.2 (fun e=>hi e.symm)]; rfl
  ·exact e i
 have hl:TrD (yy a.2.2.2.2.1) v (yi a a.2.2.2.1) (yi (yby a a.2.2.2.1 (yy a.2.2.2.2.1) v) a.2.2.2.1):=by
  rcases hd.2.2 with⟨_,e⟩ | ⟨_,e⟩
  ·rw[e _ hmi.1,beq_self_eq_true]; exact y3V _ _ _
  ·rw[e]; exact yyq _ _ _
 obtain⟨c1,c2,c3,c4,c5,c6,c7⟩:=ybq (yhN a a.2.2.2.1 (yy a.2.2.2.2.1) v);generalize yby a a.2.2.2.1 (yy a.2.2.2.2.1) v=P at ho hl c1 c2 c3 c4 c5 c6 c7
 have hfl: ∀i,0≤i→i<a.2.1.1→yF P i=yF a i:=fun i i0 i1=>by
  by_cases e:i=a.2.2.2.1
  ·rw[e]; exact hl.2.1
  ·unfold yF; rw[ho i i0 e]
 have hbl: ∀i n,0≤i→yJ P i n=true→yJ a i n=true:=fun i n i0 hb=>by
  by_cases e:i=a.2.2.2.1
  ·rw[e]at hb ⊢; exact hl.2.2.2 n hb
  ·unfold yJ at hb ⊢; rw[ho i i0 e]at hb; exact hb
 refine⟨R,by rw[c4]; exact hB,fun f' fl Lf hf hal=> ?_⟩;rw[c2,c3]at hal;have hal2:=yyw hal hfl;have hLf:Lf=a.2.2.2.1:=by rcases hal with⟨h1,_⟩ | ⟨_,_,h3,_⟩<;>omega
 obtain⟨f,hfd⟩: ∃f:Int→Int→List Int,f=fun i n=>if i=a.2.2.2.1∧n=yy a.2.2.2.2.1 then ycn (yi a a.2.2.2.1) n else f' i n:=⟨_,rfl⟩
 have hfe: ∀i n,¬(i=a.2.2.2.1∧n=yy a.2.2.2.2.1)→f' i n=f i n:=fun i n hi=>by rw[hfd]; exact(if_neg hi).symm
 have hch:Ch a f:=fun i n i0 i1 n0=>by
  by_cases e:i=a.2.2.2.1∧n=yy a.2.2.2.2.1
  ·rw[hfd]; simp only[if_pos e]; rw[e.1]; exact yxO _ _
  ·rw[← hfe i n e]
   have h1:=hf i n i0 (by rw[c2]; exact i1) n0;by_cases e2:i=a.2.2.2.1
   ·rw[e2]at h1 ⊢
    rcases hl.1 n _ n0 h1 with h2 | ⟨h2,_⟩
    ·exact h2
    ·exact absurd ⟨e2,h2⟩ e
   ·rw[ho i i0 e2]at h1; exact h1
 obtain⟨Bf,⟨p1,p2⟩,h1,h2⟩:=hr f fl Lf hch hal2;have h01: ∀i n,(n=0∨n=1)→f' i n=f i n:=fun i n hn=>hfe i n (fun e=>by omega)
 have he:Eq0 P fl Lf→Eq0 a fl Lf:=fun e=>⟨e.1.trans c3,fun i i0 i1=>(e.2 i i0 (by rw[c2]; exact i1)).trans (hfl i i0 i1)⟩
 have hBf:Bf≤B0:=by
  obtain⟨j,j0,j1,_⟩:=h1.u3;have:=(yfF (h1.u0 j j0 j1)).2.2.2.2.2.1;rcases h1.u4 with⟨_,h3,_⟩ | ⟨_,_,_,_,h3⟩<;>omega
 rw[c1,c2,c3,c5,c6,c7];refine⟨Bf,⟨fun e=>p1 (he e),fun e e1 e2=> ?_⟩,ygU h1 (fun i n _ _ _ hn=>h01 i n hn),yfa h2 (fun i n i0 i1 hi hn=> ?_) (fun i n i0 _ hb=>hbl i n i0 hb)⟩
 ·obtain⟨n,s',hn,hsv⟩:=p2 (he e) e1 e2
  exact⟨n,s',hn,by rw[h01 Lf n hn]; exact hsv⟩
 ·by_cases e:i=a.2.2.2.1∧n=yy a.2.2.2.2.1
  ·exact .inr (.inr ⟨by omega,by omega,by omega⟩)
  ·refine .inl ⟨hfe i n e,?_⟩
   by_cases e2:i=a.2.2.2.1
   ·rw[e2]; exact hl.2.2.1 n (fun e3=>e ⟨e2,e3⟩)
   ·unfold yJ; rw[ho i i0 e2]
theorem y6e {K:Int} {V:Int→Int→Int} {a:dA} (h:Lv K V a) (hm:inb a.2.2.2.1 a.2.2.1.length=true) (hf:(nth a.2.2.1 a.2.2.2.1 yc).2.2.1=false) (hb:a.2.2.2.2.1<a.2.1.2) :
  (ya (yfT a).2=false→Lv K V (yfT a).2)∧(ya (yfT a).2=true→Dd K (· =V) (yfT a).2):=by
 have hi:=y6b h.x hm hf hb;have c:=h.x.xc;unfold yU at c;have hg:=yl.1 c.1;have hmi:=zj4.1 hm;have hlen:=h.x.xk.1.2;obtain⟨B0,hR⟩:=h.r;have hxg:=h.x.xg;have hxs:=h.x.xs;unfold yfT at hi ⊢;cases hw:(yR a a.2.2.2.2.1).2
 ·exact⟨fun _=>h,fun hd=>by have hd:ya a=true:=hd; rw[h.x.xu]at hd; cases hd⟩
 ·rw[hw]at hi
  have rs:=y5I (v:= [nth (yR a a.2.2.2.2.1).1 a.2.2.2.1 0]) h.x.xk h.x.xu hm (by omega) (by omega) hR;have hd:=yC3 (yy a.2.2.2.2.1) [nth (yR a a.2.2.2.2.1).1 a.2.2.2.1 0] h.x.xu hm;obtain⟨c1,c2,c3,c4,c5,c6,c7⟩:=ybq (yhN a a.2.2.2.1 (yy a.2.2.2.2.1) [nth (yR a a.2.2.2.2.1).1 a.2.2.2.1 0]);have hS:yaK a=yby a a.2.2.2.1 (yy a.2.2.2.2.1) [nth (yR a a.2.2.2.2.1).1 a.2.2.2.1 0]:=rfl;rw[← hS]at rs hd c1 c2 c3 c4 c5 c6 c7
  have hlack:yj0 a a.2.2.2.2.1<2:=by
   rw[y2B h.x (by omega) hb]at hw;by_cases h2:yj0 a a.2.2.2.2.1<2
   ·exact h2
   ·rw[decide_eq_false h2]at hw; cases hw
  generalize yaK a=P at hi rs hd c1 c2 c3 c4 c5 c6 c7;cases hp:ya P
  ·rw[hp]at hi
   have hi2:=hi hp;refine⟨fun _=>⟨hi2,⟨B0,?_⟩,?_⟩,fun hd2=>by have hd2:ya P=true:=hd2; rw[hp]at hd2; cases hd2⟩
   ·obtain⟨R,r1,r2⟩:=rs
    refine⟨R,?_,r2⟩;show B0≤i64.wrap (P.2.2.2.2.1+1);rw[wr (by omega) (by omega)]; omega
   ·refine⟨fun _ i s i0 i1 hne s0 s1=> ?_,fun _ hfl=> ?_⟩
    ·have i1:i<P.2.1.1:=i1
     have hne:i≠P.2.2.2.1:=hne;rw[c2]at i1;rw[c3]at hne;have s1:s<i64.wrap (P.2.2.2.2.1+1):=s1;rw[wr (by omega) (by omega)]at s1;show yJ P i (s+6)=false
     have e:yi P i=yi a i:=by
      rcases hd.2.2 with⟨_,e⟩ | ⟨_,e⟩
      ·rw[e i i0,show(a.2.2.2.1==i)=false from beq_eq_false_iff_ne.2 (by omega)]; rfl
      ·exact e i
     show ya3 (yi P i) (s+6)=false;rw[e];by_cases hs:s<a.2.2.2.2.1
     ·exact h.n.n (by omega) i s i0 (by omega) (by omega) s0 hs
     ·have hse:s=a.2.2.2.2.1:=by omega
      subst hse
      have hL:(fun(i:Nat)=>yaF a a.2.2.2.2.1 i) a.2.2.2.1.toNat=false:=by
       show yaF a a.2.2.2.2.1 ((a.2.2.2.1.toNat:Nat):Int)=false;rw[Int.toNat_of_nonneg hmi.1];unfold yaF yak;rw[bne_self_eq_false,zk1 (Int.le_refl _),Bool.or_self,Bool.and_false]; rfl
      have:=yZZ (p:=fun(i:Nat)=>yaF a a.2.2.2.2.1 i) (n:=a.2.1.1.toNat) (j:=a.2.2.2.1.toNat) hlack (by omega) hL i.toNat (by omega) (by omega);have this:yaF a a.2.2.2.2.1 ((i.toNat:Nat):Int)=true:=this;rw[Int.toNat_of_nonneg i0]at this;unfold yaF at this;rw[Bool.and_eq_true,Bool.not_eq_true']at this;exact this.2
    ·have hfl:yF P P.2.2.2.1=true:=hfl
     rw[c3]at hfl
     have:yF P a.2.2.2.1=yF a a.2.2.2.1:=by
      unfold yF;rcases hd.2.2 with⟨_,e⟩ | ⟨_,e⟩
      ·rw[e _ hmi.1,beq_self_eq_true,cond_true,yGE]
      ·rw[e]
     rw[this]at hfl;have hf:yF a a.2.2.2.1=false:=hf;rw[hf]at hfl; cases hfl
  ·exact⟨(fun hu=>by have hu:ya P=false:=hu; rw[hp]at hu; cases hu),fun _=>yW5 (a:=P) rs (by rw[c7]; exact hxg) (by rw[c5]; exact hxs)⟩
theorem y4p {m:dM} {n k:Int} {v:List Int} (h:yla (spoil m n) k v):yla m k v:=by
 unfold spoil at h;cases hc:(yv m&&(inb n m.1.length&& !(m.2.2.2.any (· ==n))))
 ·rw[hc]at h; exact h
 ·rw[hc]at h; exact h
theorem yZG {m:dM} {n k:Int}:(ya3 m k=true→ya3 (spoil m n) k=true)∧(ya3 (spoil m n) k=true→ya3 m k=true∨k=n):=by
 unfold spoil;cases hc:(yv m&&(inb n m.1.length&& !(m.2.2.2.any (· ==n))))
 ·exact⟨id,.inl⟩
 ·have mem: ∀x,x∈yvf m.2.2.2 n↔(x∈m.2.2.2∨x=n):=fun x=>by
   unfold yvf;rw[List.mem_append,List.mem_cons,List.mem_filter,List.mem_filter];constructor
   ·rintro(h | h | h)
    ·exact .inl h.1
    ·exact .inr h
    ·exact .inl h.1
   ·rintro(h | h)
    ·rcases Int.lt_trichotomy x n with g | g | g
     ·exact .inl ⟨h,zkw g⟩
     ·exact .inr (.inl g)
     ·exact .inr (.inr ⟨h,zkw g⟩)
    ·exact .inr (.inl h)
  constructor
  ·intro h
   obtain⟨x,hx,e⟩:=List.any_eq_true.1 (show m.2.2.2.any (· ==k)=true from h);exact List.any_eq_true.2 ⟨x,(mem x).2 (.inl hx),e⟩
  ·intro h
   obtain⟨x,hx,e⟩:=List.any_eq_true.1 (show(yvf m.2.2.2 n).any (· ==k)=true from h);rcases(mem x).1 hx with g | g
   ·exact .inl (List.any_eq_true.2 ⟨x,g,e⟩)
   ·exact .inr (by rw[← beq_iff_eq.1 e,g])
theorem y5B {K m s:Int} {V:Int→Int→Int} {a:dA} (h:Lv K V a) (hl:a.2.2.2.1= -1) (hm:inb m a.2.2.1.length=true) (s0:0≤s) (s1:s<a.2.1.2):Lv K V (ybx a m (spoil (nth a.2.2.1 m yc) (yy s))):=by
 have hx:=y5x (n:=yy s) h.x hm;have hmi:=zj4.1 hm;have hg:=yl.1 h.x.xc.1;have hda:=yjb s0 (by omega);have hd: ∀i,0≤i→yi (ybx a m (spoil (nth a.2.2.1 m yc) (yy s))) i=bif m==i then spoil (yi a m) (yy s)else yi a i:=fun i i0=>yMR hm i0
 obtain⟨B0,R,hB,hr⟩:=h.r
 have e1: ∀i,0≤i→yi (ybx a m (spoil (nth a.2.2.1 m yc) (yy s))) i=yi a i∨(i=m∧yi (ybx a m (spoil (nth a.2.2.1 m yc) (yy s))) i=spoil (yi a i) (yy s)):=fun i i0=>by
  by_cases e:m=i
  ·subst e; rw[hd m i0,beq_self_eq_true]; exact .inr ⟨rfl,rfl⟩
  ·rw[hd i i0,show(m==i)=false from beq_eq_false_iff_ne.2 e]; exact .inl rfl
 refine⟨hx,⟨B0,R,hB,fun f fl Lf hf hal=> ?_⟩,⟨fun hn=>absurd hl hn,fun hn=>absurd hl hn⟩⟩
 have hfl: ∀i,0≤i→i<a.2.1.1→yF (ybx a m (spoil (nth a.2.2.1 m yc) (yy s))) i=yF a i:=fun i i0 _=>by
  unfold yF;rcases e1 i i0 with e | ⟨_,e⟩
  ·rw[e]
  ·rw[e,(yoz _ _).2]
 have hal2:Al a.2.2.2.1 a.2.1.1 (yF a) fl Lf:=yyw hal hfl
 have hch:Ch a f:=fun i n i0 i1 n0=>by
  have:=hf i n i0 i1 n0;rcases e1 i i0 with e | ⟨_,e⟩
  ·rw[e]at this; exact this
  ·rw[e]at this; exact y4p this
 obtain⟨Bf,⟨p1,p2⟩,h1,h2⟩:=hr f fl Lf hch hal2;have he:Eq0 (ybx a m (spoil (nth a.2.2.1 m yc) (yy s))) fl Lf→Eq0 a fl Lf:=fun e=>⟨e.1,fun i i0 i1=>(e.2 i i0 i1).trans (hfl i i0 i1)⟩
 refine⟨Bf,⟨fun e=>p1 (he e),fun e=>p2 (he e)⟩,h1,⟨h2.e,h2.q,fun i t i0 i1 t0 t1 hi hlv hb hj=>h2.d i t i0 i1 t0 t1 hi hlv ?_ hj,h2.r,h2.h,h2.v,h2.l,fun i n i0 i1 hi hb=> ?_⟩⟩
 ·cases hx:yJ a i (t+6)
  ·rfl
  ·rw[← hb]
   unfold yJ at hx ⊢;rcases e1 i i0 with e | ⟨_,e⟩
   ·rw[e]; exact hx.symm
   ·rw[e]; exact(yZG.1 hx).symm
 ·unfold yJ at hb
  rcases e1 i i0 with e | ⟨_,e⟩
  ·rw[e]at hb; exact h2.b i n i0 i1 hi hb
  ·rw[e]at hb
   rcases yZG.2 hb with h3 | h3
   ·exact h2.b i n i0 i1 hi h3
   ·omega
def Any (_:Int→Int→Int):Prop:=True
theorem y2H {K:Int} {V:Int→Int→Int} {a:dA} (s:Int) (h:Lv K V a) (hk:K+1≤60000) :
  (ya (yaW a s).2=false→ ∃V',Lv (K+2) V' (yaW a s).2)∧(ya (yaW a s).2=true→Dd (K+2) Any (yaW a s).2):=by
 have same:(ya a=false→ ∃V',Lv (K+2) V' a)∧(ya a=true→Dd (K+2) Any a):=⟨fun _=>⟨V,ytg h (by omega)⟩,fun hd=>by rw[h.x.xu]at hd; cases hd⟩;unfold yaW;cases h0:ltb (yan a.2.2.2.2.2.2.2.2.1 s) 0
 ·generalize (nth a.2.2.2.2.2.2.2.2.1 (yan a.2.2.2.2.2.2.2.2.1 s) (0,[])).2=D
  cases hc:(yO a s D !=0)
  ·obtain⟨_,z1,z2,_,z4,_,z6,_⟩:=yyP (bne_eq_false_iff_eq.1 hc)
   obtain⟨w1,w2⟩:=y2J h z4 z1 z2 z6 hk;have wg:=y0f a s D;simp only[cond_false];generalize yA a s D=W at w1 w2 wg;cases hw:(W.1==0)
   ·exact⟨fun hu=>⟨_,(w1 hu).1⟩,fun hu=>ymh (w2 hu).1 (Int.le_refl _) (fun _ _=>trivial)⟩
   ·refine⟨fun hu=>⟨_,y5z (w1 hu).1 (by rw[wg]; exact yZO _ h.x.xc.2.2.1)⟩,fun hu=>absurd (beq_iff_eq.1 hw) (w2 hu).2⟩
  ·exact same
 ·exact same
theorem y2I {k:Int}: ∀(n i:Nat) (j:Int) (V:Int→Int→Int) (a:dA),Lv j V a→j+2*n≤k→k≤60000 →
  (ya (goE ymq (fun b=>((0:Int),b)) n i a).2=false→ ∃V',Lv k V' (goE ymq (fun b=>((0:Int),b)) n i a).2)∧(ya (goE ymq (fun b=>((0:Int),b)) n i a).2=true→Dd k Any (goE ymq (fun b=>((0:Int),b)) n i a).2)
 | 0,_,j,V,a,h,h1,_=>⟨fun _=>⟨V,ytg h (by omega)⟩,fun hd=>by have hd:ya a=true:=hd; rw[h.x.xu]at hd; cases hd⟩
 | n+1,i,j,V,a,h,h1,h2=>by
  have hf:=y2H (nth a.2.2.2.2.2.2.2.2.1 0 (0,[])).1 h (by omega);unfold goE ymq;generalize yaW a (nth a.2.2.2.2.2.2.2.2.1 0 (0,[])).1=F at hf;cases hc:(F.1 !=0)
  ·simp only[cond_false]
   cases hd:ya F.2
   ·obtain⟨V1,h3⟩:=hf.1 hd
    exact y2I n (i+1) (j+2) V1 _ h3 (by omega) h2
   ·have e:(goE ymq (fun b=>((0:Int),b)) n (i+1) F.2).2=F.2:=yZE n (i+1) hd
    unfold ymq at e;rw[e];exact⟨(fun hu=>by rw[hd]at hu; cases hu),fun _=>ymh (hf.2 hd) (by omega) (fun _ h=>h)⟩
  ·simp only[cond_true]
   exact⟨fun hu=>(hf.1 hu).imp (fun V h=>ytg h (by omega)),fun hu=>ymh (hf.2 hu) (by omega) (fun _ h=>h)⟩
theorem y6w {k:Int} {V:Int→Int→Int} {a:dA} (h:Lv k V a) (hk:k+16≤60000):(ya (yKM a).2=false→ ∃V',Lv (k+16) V' (yKM a).2)∧(ya (yKM a).2=true→Dd (k+16) Any (yKM a).2):=by
 have:=yyT h.x.xc.2.2.1 h.x.xc.1;exact y2I _ 0 k V a h (by omega) hk
theorem yLB {k:Int} {V:Int→Int→Int} {a b:dA} (h:Lv k V a) (ht:Turned a b) (hk:k+16≤60000):(ya b=false→ ∃V',Lv (k+16) V' b)∧(ya b=true→Dd (k+16) Any b):=by
 have one: ∀{r:dA} {K:Int},K≤k+16→(ya r=false→Lv K V r)∧(ya r=true→Dd K (· =V) r)→(ya r=false→ ∃V',Lv (k+16) V' r)∧(ya r=true→Dd (k+16) Any r):=fun hK g=>⟨fun hu=>⟨V,ytg (g.1 hu) hK⟩,fun hu=>ymh (g.2 hu) hK (fun _ _=>trivial)⟩
 have stay: ∀{r:dA},Lv k V r→(ya r=false→ ∃V',Lv (k+16) V' r)∧(ya r=true→Dd (k+16) Any r):=fun g=>⟨fun _=>⟨V,ytg g (by omega)⟩,fun hd=>by rw[g.x.xu]at hd; cases hd⟩
 cases ht with
 | same=>exact stay h
 | put b x hb hx=>exact stay (y6y h hb hx)
 | flush s =>
  have g:=y2H s h (by omega);exact⟨fun hu=>(g.1 hu).imp (fun V h=>ytg h (by omega)),fun hu=>ymh (g.2 hu) (by omega) (fun _ h=>h)⟩
 | all=>exact y6w h hk
 | fail m hl hm=>exact one (by omega) (y6d h hl hm (by omega))
 | spare hl hf=>exact one (by omega) (y5A h hl hf (by omega))
 | step hl hf hb=>exact one (by omega) (y6e h hl hf hb)
 | check=>exact one (by omega) (y2G h (by omega))
 | spoil m s hl hm s0 s1=>exact stay (y5B h hl hm s0 s1)
theorem yLz {p:Nat→Bool} {j:Nat}: ∀{n:Nat},(∀i,i<n→i≠j→p i=true)→ynB p n≤1∧(n≤j→ynB p n=0)
 | 0,_=>⟨Nat.zero_le _,fun _=>rfl⟩
 | n+1,h=>by
  obtain⟨h1,h2⟩:=yLz (n:=n) (fun i hi hj=>h i (by omega) hj);rw[yCU];cases hp:p n
  ·have:n=j:=Classical.byContradiction fun e=>by rw[h n (by omega) e]at hp; cases hp
   rw[cond_false,h2 (by omega)];exact⟨by omega,fun h=>by omega⟩
  ·rw[cond_true]
   exact⟨h1,fun h=>h2 (by omega)⟩
theorem y3G {a:dA} {s j:Int} (j0:0≤j) (h: ∀i,0≤i→i<a.2.1.1→i≠j→yaF a s i=true):yj0 a s<2:=by
 have:=(yLz (p:=fun(i:Nat)=>yaF a s i) (j:=j.toNat) (n:=a.2.1.1.toNat) (fun i hi hj=>h i (by omega) (by omega) (by omega))).1;unfold yj0;omega
theorem y4f {K:Int} {V:Int→Int→Int} {a:dA} (h:Ix K V a):yxP a=bif(List.range a.2.1.2.toNat).all (fun(s:Nat)=>decide (yj0 a s<2))then(List.range a.2.1.2.toNat).flatMap (fun(s:Nat)=>yeO V a.2.1 s)else[]:=by
 unfold yxP
 have e: ∀s,s∈List.range a.2.1.2.toNat→ydU a (s:Int)=bif decide (yj0 a s<2)then(yeO V a.2.1 s,true)else([],false):=fun s hs=>by
  have:=List.mem_range.1 hs;exact y4e h (by omega) (by omega)
 have h1:(List.range a.2.1.2.toNat).all (fun(s:Nat)=>(ydU a s).2)=(List.range a.2.1.2.toNat).all (fun(s:Nat)=>decide (yj0 a s<2)):=by
  rw[Bool.eq_iff_iff,List.all_eq_true,List.all_eq_true];constructor
  ·intro g s hs
   have:=g s hs;rw[e s hs]at this;cases hd:decide (yj0 a s<2)
   ·rw[hd]at this; cases this
   ·rfl
  ·intro g s hs
   rw[e s hs,g s hs]; rfl
 rw[yU1 h,h1,Bool.true_and];cases hc:(List.range a.2.1.2.toNat).all (fun(s:Nat)=>decide (yj0 a s<2))
 ·rfl
 ·rw[cond_true,cond_true]
  rw[List.all_eq_true]at hc;rw[List.flatMap_def,List.flatMap_def];refine congrArg List.flatten (List.map_congr_left fun s hs=> ?_);rw[e s hs,hc s hs]; rfl
def y30 (a:dA):Prop:= ∀s,0≤s→s<a.2.1.2→yj0 a s<2
theorem yLw {K:Int} {V:Int→Int→Int} {a:dA} (h:Ix K V a) (hf:y30 a):yxP a=(List.range a.2.1.2.toNat).flatMap (fun(s:Nat)=>yeO V a.2.1 s):=by
 rw[y4f h,show(List.range a.2.1.2.toNat).all (fun(s:Nat)=>decide (yj0 a s<2))=true from List.all_eq_true.2 fun s hs=>decide_eq_true (hf s (by omega) (by have:=List.mem_range.1 hs; omega))]; rfl
theorem y4T {x:dA} {i s:Int} (hl:i≠x.2.2.2.1) (hf:yF x i=false) (hb:yJ x i (s+6)=false):yaF x s i=true:=by
 unfold yaF yak;rw[show(yi x i).2.2.1=false from hf,show ya3 (yi x i) (s+6)=false from hb,show(i !=x.2.2.2.1)=true from bne_iff_ne.2 hl]; rfl
theorem y4E {K id:Int} {g:dG} {V:Int→Int→Int} {Lf:Int} {l:List dM} {x:dA} (h:Back K id g V Lf l x) (hw: ∀s,0≤s→s<g.2→ ∃j,0≤j∧ ∀i,0≤i→i<g.1→i≠j→i≠Lf∧flF l i=false∧bdF l i (s+6)=false):y30 x:=fun s s0 s1=>by
 rw[h.bg]at s1;obtain⟨j,j0,hj⟩:=hw s s0 s1;refine y3G j0 fun i i0 i1 hi=> ?_
 rw[h.bg]at i1;obtain⟨h1,h2,h3⟩:=hj i i0 i1 hi;refine y4T (by rw[h.bl]; exact h1) ((h.bf i i0 i1).trans h2) ?_;cases hb:yJ x i (s+6)
 ·rfl
 ·rw[h.be i (s+6) i0 i1 (by omega) hb]at h3; cases h3
end
def y0B:Code:=(f207.body).getD .skip
def y07:Env:=zku TT [(162,yHR)] []
theorem yQP:FrOk prog ⟨y07,18,fun _=>none⟩ y0B:=zky yf yg ⟨y1K,trivial⟩
abbrev yrC:List Par:= [.rd tN]
abbrev yAM:List OT:= [⟨false,tL,(.ow .fz)⟩]
def yvJ (a0:dN):Option (zaY yAM×zak yrC) :=let r1:=yX a0;bif(!r1)then some ((([]:List Int),()),()) else bif(zkj ([21322,a0.1,a0.2.1,(a0.2.2.length:Int)]:List Int).length a0.2.2.length 8)then some (((([21322,a0.1,a0.2.1,(a0.2.2.length:Int)]:List Int)++a0.2.2),()),()) else none
theorem yV6:ConOk prog 207 ⟨yrC,yAM,fun x=>yvJ x.1⟩:=zkG (yQP) func207 ntmps207.symm fun x=>by kernel_rfl
def yl6 (a0:dN):List Int:=yac a0
theorem yYy (a0:dN) (hk:zjw yrC (a0,())):yvJ a0=(fun n=>some ((n,()),())) (yl6 a0):=by
 unfold yvJ yl6 yac;cases hr:yX a0
 ·rfl
 ·have:=(yti.1 hr).2.2.1
  rw[zkD.2 (show(([21322,a0.1,a0.2.1,(a0.2.2.length:Int)]:List Int).length+a0.2.2.length)*8≤140737488355328 by simp only[List.length_cons,List.length_nil]; omega)]; rfl
def yGn:Con:=⟨yrC,yAM,fun x=>(fun n=>some ((n,()),())) (yl6 x.1)⟩
theorem yZh:ConOk prog 207 yGn:=(yV6).mono (fun x r hk h=>(yYy x.1 hk).trans h)
def ytt:Code:=(f169.body).getD .skip
def yDr:Env:=zku TT [(91,yGo),(206,yks),(207,yGn),(208,ynA)] []
theorem yUT:FrOk prog ⟨yDr,24,fun _=>none⟩ ytt:=zky yf yg ⟨yZi,yrS,yZh,yx1,trivial⟩
def yHF:Nat→Option Seg:=fun _=>none
def ydJ:Shape:=⟨[(0,false,[.ptr 1000000000 0]),(3,false,[.ptr 0 0]),(4,false,[.int .i64])],[(0,[.int .i64,.int .i64,.br tI]),(1000000000,[.int .i64,.int .i64,.int .i64,.at 800000000,.int .i64,.int .i64,.int .i64,.int .i64,.int .i64,.at 800000001,.int .i64,.bool,.bool])],[(800000000,tM,(.pr (.ow .fz) (.pr (.ow (.pr .fz .fz)) (.pr .fz (.ow .fz))))),(800000001,tW,(.pr .fz .fz))]⟩
def yiR:Shape:=⟨[(0,false,[.ptr 1000000000 0]),(3,false,[.ptr 0 0]),(4,false,[.ci .i64 0])],[(0,[.int .i64,.int .i64,.br tI]),(1000000000,[.int .i64,.int .i64,.int .i64,.at 800000000,.int .i64,.int .i64,.int .i64,.int .i64,.int .i64,.at 800000001,.int .i64,.bool,.bool])],[(800000000,tM,(.pr (.ow .fz) (.pr (.ow (.pr .fz .fz)) (.pr .fz (.ow .fz))))),(800000001,tW,(.pr .fz .fz))]⟩
def yiE:Shape:=⟨[(0,false,[.ptr 1000000000 0])],[(1000000000,[.int .i64,.int .i64,.int .i64,.at 800000000,.int .i64,.int .i64,.int .i64,.int .i64,.int .i64,.at 800000001,.int .i64,.bool,.bool])],[(800000000,tM,(.pr (.ow .fz) (.pr (.ow (.pr .fz .fz)) (.pr .fz (.ow .fz))))),(800000001,tW,(.pr .fz .fz))]⟩
def yno:Shape:=⟨[],[],[]⟩
abbrev yst (v0:Int) (v1:dN) (v2:dA):(ydJ).X:=((((),()),((),()),(v0,()),()),((v1.1,v1.2.1,v1.2.2,()),(v2.1,v2.2.1.1,v2.2.1.2,(),v2.2.2.2.1,v2.2.2.2.2.1,v2.2.2.2.2.2.1,v2.2.2.2.2.2.2.1,v2.2.2.2.2.2.2.2.1,(),v2.2.2.2.2.2.2.2.2.2.1,v2.2.2.2.2.2.2.2.2.2.2.1,v2.2.2.2.2.2.2.2.2.2.2.2,()),()),(v2.2.2.1,v2.2.2.2.2.2.2.2.2.1,()))
abbrev yRA (v0:dN) (v1:dA):(yiR).X:=((((),()),((),()),((),()),()),((v0.1,v0.2.1,v0.2.2,()),(v1.1,v1.2.1.1,v1.2.1.2,(),v1.2.2.2.1,v1.2.2.2.2.1,v1.2.2.2.2.2.1,v1.2.2.2.2.2.2.1,v1.2.2.2.2.2.2.2.1,(),v1.2.2.2.2.2.2.2.2.2.1,v1.2.2.2.2.2.2.2.2.2.2.1,v1.2.2.2.2.2.2.2.2.2.2.2,()),()),(v1.2.2.1,v1.2.2.2.2.2.2.2.2.1,()))
abbrev yE5 (v0:dA):(yiE).X:=((((),()),()),((v0.1,v0.2.1.1,v0.2.1.2,(),v0.2.2.2.1,v0.2.2.2.2.1,v0.2.2.2.2.2.1,v0.2.2.2.2.2.2.1,v0.2.2.2.2.2.2.2.1,(),v0.2.2.2.2.2.2.2.2.2.1,v0.2.2.2.2.2.2.2.2.2.2.1,v0.2.2.2.2.2.2.2.2.2.2.2,()),()),(v0.2.2.1,v0.2.2.2.2.2.2.2.2.1,()))
def ys3 (v0 v1 v2:Int) (v3:List Int) (v4 v5 v6 v7 v8 v9 v10 v11 v12:Int) (v13 v14:Bool) (v15:List dM) (v16:List dW):Option ((ydJ).X ⊕ ((yiE).X ⊕ (yno).X)) :=bif(ltb v0 (v15.length:Int))then let r4:=yh v1;let r5:=yl6 (v1,v2,v3);bnd (yfC (v4,(v5,v6),v15,v7,v8,v9,v10,v11,v16,v12,v13,v14) v0 r4 r5) fun r6 =>some (.inl ((((),()),((),()),((i64.wrap (v0+1)),()),()),((v1,v2,v3,()),(r6.2.1.1,r6.2.1.2.1.1,r6.2.1.2.1.2,(),r6.2.1.2.2.2.1,r6.2.1.2.2.2.2.1,r6.2.1.2.2.2.2.2.1,r6.2.1.2.2.2.2.2.2.1,r6.2.1.2.2.2.2.2.2.2.1,(),r6.2.1.2.2.2.2.2.2.2.2.2.1,r6.2.1.2.2.2.2.2.2.2.2.2.2.1,r6.2.1.2.2.2.2.2.2.2.2.2.2.2,()),()),(r6.2.1.2.2.1,r6.2.1.2.2.2.2.2.2.2.2.1,()))) else some (.inr (.inl ((((),()),()),((v4,v5,v6,(),v7,v8,v9,v10,v11,(),v12,v13,v14,()),()),(v15,v16,()))))
def yef (x:(ydJ).X):=ys3 x.1.2.2.1.1 x.2.1.1.1 x.2.1.1.2.1 x.2.1.1.2.2.1 x.2.1.2.1.1 x.2.1.2.1.2.1 x.2.1.2.1.2.2.1 x.2.1.2.1.2.2.2.2.1 x.2.1.2.1.2.2.2.2.2.1 x.2.1.2.1.2.2.2.2.2.2.1 x.2.1.2.1.2.2.2.2.2.2.2.1 x.2.1.2.1.2.2.2.2.2.2.2.2.1 x.2.1.2.1.2.2.2.2.2.2.2.2.2.2.1 x.2.1.2.1.2.2.2.2.2.2.2.2.2.2.2.1 x.2.1.2.1.2.2.2.2.2.2.2.2.2.2.2.2.1 x.2.2.1 x.2.2.2.1
def yEJ (x:(yiR).X):(ydJ).X:=((((),()),((),()),(0,()),()),((x.2.1.1.1,x.2.1.1.2.1,x.2.1.1.2.2.1,()),(x.2.1.2.1.1,x.2.1.2.1.2.1,x.2.1.2.1.2.2.1,(),x.2.1.2.1.2.2.2.2.1,x.2.1.2.1.2.2.2.2.2.1,x.2.1.2.1.2.2.2.2.2.2.1,x.2.1.2.1.2.2.2.2.2.2.2.1,x.2.1.2.1.2.2.2.2.2.2.2.2.1,(),x.2.1.2.1.2.2.2.2.2.2.2.2.2.2.1,x.2.1.2.1.2.2.2.2.2.2.2.2.2.2.2.1,x.2.1.2.1.2.2.2.2.2.2.2.2.2.2.2.2.1,()),()),(x.2.2.1,x.2.2.2.1,()))
def yGb:Code:=(zeJ ytt 64 52).getD .skip
theorem yUf:zeJ ytt 64 13=some (.block 0 (.loop yGb)):=by kernel_rfl
theorem yW1 (x:(ydJ).X):zhu ⟨yDr,24,yHF⟩ 0 yGb 52 ydJ yiE yno x=yef x:=by kernel_rfl
def yEY (x:(yiR).X):Nat:=18446744073709551616
def ytT (x:(yiR).X):Option ((yiE).X ⊕ (yno).X):=zF yef (yEY x) (yEJ x)
def yFC:Seg:=⟨yiR,yiE,yno,ytT⟩
def yXA:Nat→Option Seg:=fun q=>bif Nat.beq q 13 then some yFC else yHF q
theorem yUU:FrOk prog ⟨yDr,24,yXA⟩ ytt:=(yUT).loop (sg:=yFC) ydJ yEJ (by decide) yUf yef yEY (by decide) (fun _=>rfl) (fun x r _ h=>h) yW1
abbrev yub:List Par:= [.pt tA (.pr .fz (.pr (.pr .fz .fz) (.pr (.ow (.pr (.ow .fz) (.pr (.ow (.pr .fz .fz)) (.pr .fz (.ow .fz))))) (.pr .fz (.pr .fz (.pr .fz (.pr .fz (.pr .fz (.pr (.ow (.pr .fz .fz)) (.pr .fz (.pr .fz .fz))))))))))),.rd tN]
abbrev yDU:List OT:= []
def yyg (a0:dA) (a1:dN):Option (zaY yDU×zak yub) :=zkr (ytT ((((),()),((),()),((),()),()),((a1.1,a1.2.1,a1.2.2,()),(a0.1,a0.2.1.1,a0.2.1.2,(),a0.2.2.2.1,a0.2.2.2.2.1,a0.2.2.2.2.2.1,a0.2.2.2.2.2.2.1,a0.2.2.2.2.2.2.2.1,(),a0.2.2.2.2.2.2.2.2.2.1,a0.2.2.2.2.2.2.2.2.2.2.1,a0.2.2.2.2.2.2.2.2.2.2.2,()),()),(a0.2.2.1,a0.2.2.2.2.2.2.2.2.1,()))) (fun y6 =>let r8:=yen (y6.2.1.1.1,(y6.2.1.1.2.1,y6.2.1.1.2.2.1),y6.2.2.1,y6.2.1.1.2.2.2.2.1,y6.2.1.1.2.2.2.2.2.1,y6.2.1.1.2.2.2.2.2.2.1,y6.2.1.1.2.2.2.2.2.2.2.1,y6.2.1.1.2.2.2.2.2.2.2.2.1,y6.2.2.2.1,y6.2.1.1.2.2.2.2.2.2.2.2.2.2.1,y6.2.1.1.2.2.2.2.2.2.2.2.2.2.2.1,y6.2.1.1.2.2.2.2.2.2.2.2.2.2.2.2.1);some ((),(r8,()))) (fun y6 =>none)
theorem yY4:ConOk prog 169 ⟨yub,yDU,fun x=>yyg x.1 x.2.1⟩:=zkG (yUU) func169 ntmps169.symm fun x=>by kernel_rfl
def ykI (a0:dA) (a1:dN):dA:=yp a0 a1
theorem y1B (a0:dA) (a1:dN) (hk:zjw yub (a0,a1,())):yyg a0 a1=(fun n=>some ((),(n,()))) (ykI a0 a1):=by
 have hb:a0.2.2.1.length*80≤2^47:=hk.1.2.2.1.1
 have h1:ytT (yRA a1 a0)=some (.inl (yE5 ((List.range a0.2.2.1.length).foldl (ybd a1) a0))) :=
  zkB (step:=yef) a0.2.2.1.length (fun i s=>yst i a1 s) (ybd a1) (fun _ s=>s.2.2.1.length=a0.2.2.1.length) (fun s=> .inl (yE5 s)) (fun i s hi hs=>⟨by
   simp only[yef,yst,ys3,hs,zkw (show(i:Int)<a0.2.2.1.length by omega),cond_true,wq ((i:Int)+1) (by omega) (by omega),Int.natCast_add,Int.natCast_one,Int.toNat_natCast,zkV,yl6];rw[ymc s i (yh a1.1) (yac a1) (zkP (by rw[hs]; exact hi))]
   rfl,(ylB a1 s i).trans hs⟩) (fun s hs=>by simp only[yef,yst,ys3,hs,zk1 (Int.le_refl _),cond_false]) a0 rfl _ (by show _<18446744073709551616; omega)
 unfold yyg ykI yp;exact(congrArg (fun z=>zkr z _ _) h1).trans rfl
def yHU:Con:=⟨yub,yDU,fun x=>(fun n=>some ((),(n,()))) (ykI x.1 x.2.1)⟩
theorem y1N:ConOk prog 169 yHU:=(yY4).mono (fun x r hk h=>(y1B x.1 x.2.1 hk).trans h)
def ytq:Code:=(f230.body).getD .skip
def yDo:Env:=zku TT [] []
theorem yUK:FrOk prog ⟨yDo,18,fun _=>none⟩ ytq:=zky yf yg trivial
def yHC:Nat→Option Seg:=fun _=>none
def ydG:Shape:=⟨[(0,false,[.br tI]),(3,false,[.int .i64]),(4,false,[.int .i64])],[],[]⟩
def yiO:Shape:=⟨[(0,false,[.br tI]),(3,false,[.ci .i64 0]),(4,false,[.ci .i64 0])],[],[]⟩
def yiB:Shape:=⟨[(3,false,[.int .i64])],[],[]⟩
def ynl:Shape:=⟨[],[],[]⟩
abbrev ysq (v0:List Int) (v1 v2:Int):(ydG).X:=(((v0,()),(v1,()),(v2,()),()),(),())
abbrev yRx (v0:List Int):(yiO).X:=(((v0,()),((),()),((),()),()),(),())
abbrev yE3 (v0:Int):(yiB).X:=(((v0,()),()),(),())
def ys0 (v0:List Int) (v1 v2:Int):Option ((ydG).X ⊕ ((yiB).X ⊕ (ynl).X)) :=bif(ltb v2 (v0.length:Int))then bif(inb v2 v0.length)then some (.inl (((v0,()),((i64.wrap ((BitVec.ofInt IntKind.i64.bits v1 ^^^ BitVec.ofInt IntKind.i64.bits (nth v0 v2 0)).toNat:Int)),()),((i64.wrap (v2+1)),()),()),(),())) else none else some (.inr (.inl (((v1,()),()),(),())))
def yec (x:(ydG).X):=ys0 x.1.1.1 x.1.2.1.1 x.1.2.2.1.1
def yEF (x:(yiO).X):(ydG).X:=(((x.1.1.1,()),(0,()),(0,()),()),(),())
def yF7:Code:=(zeJ ytq 64 116).getD .skip
theorem yUb:zeJ ytq 64 29=some (.block 0 (.loop yF7)):=by kernel_rfl
theorem yWX (x:(ydG).X):zhu ⟨yDo,18,yHC⟩ 0 yF7 116 ydG yiB ynl x=yec x:=by kernel_rfl
def yEU (x:(yiO).X):Nat:=18446744073709551616
def ytP (x:(yiO).X):Option ((yiB).X ⊕ (ynl).X):=zF yec (yEU x) (yEF x)
def yFy:Seg:=⟨yiO,yiB,ynl,ytP⟩
def yXx:Nat→Option Seg:=fun q=>bif Nat.beq q 29 then some yFy else yHC q
theorem yUL:FrOk prog ⟨yDo,18,yXx⟩ ytq:=(yUK).loop (sg:=yFy) ydG yEF (by decide) yUb yec yEU (by decide) (fun _=>rfl) (fun x r _ h=>h) yWX
abbrev yt7:List Par:= [.rd tL]
abbrev yDP:List OT:= [⟨false,tI,.fz⟩]
def yyd (a0:List Int):Option (zaY yDP×zak yt7) :=zkr (ytP (((a0,()),((),()),((),()),()),(),())) (fun y0 =>some ((y0.1.1.1,()),())) (fun y0 =>none)
theorem yYY:ConOk prog 230 ⟨yt7,yDP,fun x=>yyd x.1⟩:=zkG (yUL) func230 ntmps230.symm fun x=>by kernel_rfl
def ykG (a0:List Int):Int:=yaG a0
theorem y1x (a0:List Int) (hk:zjw yt7 (a0,())):yyd a0=(fun n=>some ((n,()),())) (ykG a0):=by
 have hb:a0.length*8≤2^47:=hk.1.1
 have h1:ytP (yRx a0)=some (.inl (yE3 (yaG a0))) :=
  zkv (step:=yec) a0 0 (fun i s=>ysq a0 s i) xw (fun _ _=>True) (fun s=> .inl (yE3 s)) (fun i s hi _=>⟨by
   simp only[yec,ysq,ys0,zkw (show(i:Int)<a0.length by omega),cond_true,wq ((i:Int)+1) (by omega) (by omega),Int.natCast_add,Int.natCast_one,Int.toNat_natCast,zkP hi,zkQ]; rfl,trivial⟩) (fun s _=>by simp only[yec,ysq,ys0,zk1 (Int.le_refl _),cond_false]) 0 trivial _ (by show _<18446744073709551616; omega)
 unfold yyd ykG;rw[h1]; rfl
def yHS:Con:=⟨yt7,yDP,fun x=>(fun n=>some ((n,()),())) (ykG x.1)⟩
theorem y1L:ConOk prog 230 yHS:=(yYY).mono (fun x r hk h=>(y1x x.1 hk).trans h)
def yM4:Code:=(f210.body).getD .skip
def yNh:Env:=zku TT [(230,yHS)] []
theorem yIQ:FrOk prog ⟨yNh,5,fun _=>none⟩ yM4:=zky yf yg ⟨y1L,trivial⟩
abbrev yp8:List Par:= [.rd tL]
abbrev yqc:List OT:= [⟨false,tI,.fz⟩]
def ywB (a0:List Int):Option (zaY yqc×zak yp8) :=let r1:=ykG a0;some ((r1,()),())
theorem yKi:ConOk prog 210 ⟨yp8,yqc,fun x=>ywB x.1⟩:=zkG (yIQ) func210 ntmps210.symm fun x=>by kernel_rfl
def yj3 (a0:List Int):Int :=let r1:=ykG a0;r1
def ywc:Con:=⟨yp8,yqc,fun x=>(fun n=>some ((n,()),())) (yj3 x.1)⟩
theorem yMc (a0:List Int):ywB a0=(fun n=>some ((n,()),())) (yj3 a0):=zkT (p:=fun(n:Int)=>((n,()),())) rfl
theorem yMm:ConOk prog 210 ywc:=(yKi).mono (fun x r _ h=>(yMc x.1).trans h)
def yrp:Code:=(f170.body).getD .skip
def yz2:Env:=zku TT [(113,ydT),(206,yks),(209,yqg),(210,ywc),(211,yuR)] []
theorem yQ9:FrOk prog ⟨yz2,61,fun _=>none⟩ yrp:=zky yf yg ⟨yg5,yrS,yFd,yMm,yIg,trivial⟩
def yFU:Nat→Option Seg:=fun _=>none
def ydI:Shape:=⟨[(0,false,[.ptr 1000000000 0]),(1,false,[.int .i64]),(2,false,[.br tI]),(6,false,[.int .i64]),(7,false,[.int .i64])],[(1000000000,[.int .i64,.int .i64,.int .i64,.at 800000000,.int .i64,.int .i64,.int .i64,.int .i64,.int .i64,.at 800000001,.int .i64,.bool,.bool])],[(800000000,tM,(.pr (.ow .fz) (.pr (.ow (.pr .fz .fz)) (.pr .fz (.ow .fz))))),(800000001,tW,(.pr .fz .fz))]⟩
def yiQ:Shape:=⟨[(0,false,[.ptr 1000000000 0]),(1,false,[.int .i64]),(2,false,[.br tI]),(6,false,[.int .i64]),(7,false,[.ci .i64 0])],[(1000000000,[.int .i64,.int .i64,.int .i64,.at 800000000,.int .i64,.int .i64,.int .i64,.int .i64,.int .i64,.at 800000001,.int .i64,.bool,.bool])],[(800000000,tM,(.pr (.ow .fz) (.pr (.ow (.pr .fz .fz)) (.pr .fz (.ow .fz))))),(800000001,tW,(.pr .fz .fz))]⟩
def yiD:Shape:=⟨[],[(1000000000,[.int .i64,.int .i64,.int .i64,.at 800000000,.int .i64,.int .i64,.int .i64,.int .i64,.int .i64,.at 800000001,.int .i64,.bool,.bool])],[(800000000,tM,(.pr (.ow .fz) (.pr (.ow (.pr .fz .fz)) (.pr .fz (.ow .fz))))),(800000001,tW,(.pr .fz .fz))]⟩
def ynn:Shape:=⟨[],[],[]⟩
abbrev yss (v0:Int) (v1:List Int) (v2 v3:Int) (v4:dA):(ydI).X:=((((),()),(v0,()),(v1,()),(v2,()),(v3,()),()),((v4.1,v4.2.1.1,v4.2.1.2,(),v4.2.2.2.1,v4.2.2.2.2.1,v4.2.2.2.2.2.1,v4.2.2.2.2.2.2.1,v4.2.2.2.2.2.2.2.1,(),v4.2.2.2.2.2.2.2.2.2.1,v4.2.2.2.2.2.2.2.2.2.2.1,v4.2.2.2.2.2.2.2.2.2.2.2,()),()),(v4.2.2.1,v4.2.2.2.2.2.2.2.2.1,()))
abbrev yRz (v0:Int) (v1:List Int) (v2:Int) (v3:dA):(yiQ).X:=((((),()),(v0,()),(v1,()),(v2,()),((),()),()),((v3.1,v3.2.1.1,v3.2.1.2,(),v3.2.2.2.1,v3.2.2.2.2.1,v3.2.2.2.2.2.1,v3.2.2.2.2.2.2.1,v3.2.2.2.2.2.2.2.1,(),v3.2.2.2.2.2.2.2.2.2.1,v3.2.2.2.2.2.2.2.2.2.2.1,v3.2.2.2.2.2.2.2.2.2.2.2,()),()),(v3.2.2.1,v3.2.2.2.2.2.2.2.2.1,()))
abbrev yE4 (v0:dA):(yiD).X:=((),((v0.1,v0.2.1.1,v0.2.1.2,(),v0.2.2.2.1,v0.2.2.2.2.1,v0.2.2.2.2.2.1,v0.2.2.2.2.2.2.1,v0.2.2.2.2.2.2.2.1,(),v0.2.2.2.2.2.2.2.2.2.1,v0.2.2.2.2.2.2.2.2.2.2.1,v0.2.2.2.2.2.2.2.2.2.2.2,()),()),(v0.2.2.1,v0.2.2.2.2.2.2.2.2.1,()))
def ys2 (v0:Int) (v1:List Int) (v2 v3 v4 v5 v6 v7 v8 v9 v10 v11 v12:Int) (v13 v14:Bool) (v15:List dM) (v16:List dW):Option ((ydI).X ⊕ ((yiD).X ⊕ (ynn).X)) :=bif(ltb v3 (v15.length:Int))then let r9:=yj3 v1;bif(v3 !=v2)then bif(v5 !=0)then bif(inb ((i64.wrap ((i64.wrap ((i64.wrap (v3-v2))-1))+v5)).tmod v5) v1.length)then let r10:=yel (v4,(v5,v6),v15,v7,v8,v9,v10,v11,v16,v12,v13,v14) v3 v0;bif r10 then let r11:=yba v0;bnd (yfC (v4,(v5,v6),v15,v7,v8,v9,v10,v11,v16,v12,v13,v14) v3 r11 ([(nth v1 ((i64.wrap ((i64.wrap ((i64.wrap (v3-v2))-1))+v5)).tmod v5) 0)]:List Int)) fun r12 =>some (.inl ((((),()),(v0,()),(v1,()),(v2,()),((i64.wrap (v3+1)),()),()),((r12.2.1.1,r12.2.1.2.1.1,r12.2.1.2.1.2,(),r12.2.1.2.2.2.1,r12.2.1.2.2.2.2.1,r12.2.1.2.2.2.2.2.1,r12.2.1.2.2.2.2.2.2.1,r12.2.1.2.2.2.2.2.2.2.1,(),r12.2.1.2.2.2.2.2.2.2.2.2.1,r12.2.1.2.2.2.2.2.2.2.2.2.2.1,r12.2.1.2.2.2.2.2.2.2.2.2.2.2,()),()),(r12.2.1.2.2.1,r12.2.1.2.2.2.2.2.2.2.2.1,()))) else some (.inl ((((),()),(v0,()),(v1,()),(v2,()),((i64.wrap (v3+1)),()),()),((v4,v5,v6,(),v7,v8,v9,v10,v11,(),v12,v13,v14,()),()),(v15,v16,()))) else none else none else let r13:=yel (v4,(v5,v6),v15,v7,v8,v9,v10,v11,v16,v12,v13,v14) v3 v0;bif r13 then let r14:=yba v0;bnd (yfC (v4,(v5,v6),v15,v7,v8,v9,v10,v11,v16,v12,v13,v14) v3 r14 ([r9]:List Int)) fun r15 =>some (.inl ((((),()),(v0,()),(v1,()),(v2,()),((i64.wrap (v3+1)),()),()),((r15.2.1.1,r15.2.1.2.1.1,r15.2.1.2.1.2,(),r15.2.1.2.2.2.1,r15.2.1.2.2.2.2.1,r15.2.1.2.2.2.2.2.1,r15.2.1.2.2.2.2.2.2.1,r15.2.1.2.2.2.2.2.2.2.1,(),r15.2.1.2.2.2.2.2.2.2.2.2.1,r15.2.1.2.2.2.2.2.2.2.2.2.2.1,r15.2.1.2.2.2.2.2.2.2.2.2.2.2,()),()),(r15.2.1.2.2.1,r15.2.1.2.2.2.2.2.2.2.2.1,()))) else some (.inl ((((),()),(v0,()),(v1,()),(v2,()),((i64.wrap (v3+1)),()),()),((v4,v5,v6,(),v7,v8,v9,v10,v11,(),v12,v13,v14,()),()),(v15,v16,()))) else some (.inr (.inl ((),((v4,v5,v6,(),v7,v8,v9,v10,v11,(),v12,v13,v14,()),()),(v15,v16,()))))
def yee (x:(ydI).X):=ys2 x.1.2.1.1 x.1.2.2.1.1 x.1.2.2.2.1.1 x.1.2.2.2.2.1.1 x.2.1.1.1 x.2.1.1.2.1 x.2.1.1.2.2.1 x.2.1.1.2.2.2.2.1 x.2.1.1.2.2.2.2.2.1 x.2.1.1.2.2.2.2.2.2.1 x.2.1.1.2.2.2.2.2.2.2.1 x.2.1.1.2.2.2.2.2.2.2.2.1 x.2.1.1.2.2.2.2.2.2.2.2.2.2.1 x.2.1.1.2.2.2.2.2.2.2.2.2.2.2.1 x.2.1.1.2.2.2.2.2.2.2.2.2.2.2.2.1 x.2.2.1 x.2.2.2.1
def yEI (x:(yiQ).X):(ydI).X:=((((),()),(x.1.2.1.1,()),(x.1.2.2.1.1,()),(x.1.2.2.2.1.1,()),(0,()),()),((x.2.1.1.1,x.2.1.1.2.1,x.2.1.1.2.2.1,(),x.2.1.1.2.2.2.2.1,x.2.1.1.2.2.2.2.2.1,x.2.1.1.2.2.2.2.2.2.1,x.2.1.1.2.2.2.2.2.2.2.1,x.2.1.1.2.2.2.2.2.2.2.2.1,(),x.2.1.1.2.2.2.2.2.2.2.2.2.2.1,x.2.1.1.2.2.2.2.2.2.2.2.2.2.2.1,x.2.1.1.2.2.2.2.2.2.2.2.2.2.2.2.1,()),()),(x.2.2.1,x.2.2.2.1,()))
def yGa:Code:=(zeJ yrp 64 28).getD .skip
theorem yUe:zeJ yrp 64 7=some (.block 0 (.loop yGa)):=by kernel_rfl
theorem yW0 (x:(ydI).X):zhu ⟨yz2,61,yFU⟩ 0 yGa 28 ydI yiD ynn x=yee x:=by kernel_rfl
def yEX (x:(yiQ).X):Nat:=18446744073709551616
def ytS (x:(yiQ).X):Option ((yiD).X ⊕ (ynn).X):=zF yee (yEX x) (yEI x)
def yFB:Seg:=⟨yiQ,yiD,ynn,ytS⟩
def yTJ:Nat→Option Seg:=fun q=>bif Nat.beq q 7 then some yFB else yFU q
theorem yRa:FrOk prog ⟨yz2,61,yTJ⟩ yrp:=(yQ9).loop (sg:=yFB) ydI yEI (by decide) yUe yee yEX (by decide) (fun _=>rfl) (fun x r _ h=>h) yW0
abbrev ylP:List Par:= [.pt tA (.pr .fz (.pr (.pr .fz .fz) (.pr (.ow (.pr (.ow .fz) (.pr (.ow (.pr .fz .fz)) (.pr .fz (.ow .fz))))) (.pr .fz (.pr .fz (.pr .fz (.pr .fz (.pr .fz (.pr (.ow (.pr .fz .fz)) (.pr .fz (.pr .fz .fz))))))))))),.rd tI,.rd tL]
abbrev yrK:List OT:= []
def yvO (a0:dA) (a1:Int) (a2:List Int):Option (zaY yrK×zak ylP) :=let r1:=ydY a0.2.1 a1;zkr (ytS ((((),()),(a1,()),(a2,()),(r1,()),((),()),()),((a0.1,a0.2.1.1,a0.2.1.2,(),a0.2.2.2.1,a0.2.2.2.2.1,a0.2.2.2.2.2.1,a0.2.2.2.2.2.2.1,a0.2.2.2.2.2.2.2.1,(),a0.2.2.2.2.2.2.2.2.2.1,a0.2.2.2.2.2.2.2.2.2.2.1,a0.2.2.2.2.2.2.2.2.2.2.2,()),()),(a0.2.2.1,a0.2.2.2.2.2.2.2.2.1,()))) (fun y15 =>some ((),((y15.2.1.1.1,(y15.2.1.1.2.1,y15.2.1.1.2.2.1),y15.2.2.1,y15.2.1.1.2.2.2.2.1,y15.2.1.1.2.2.2.2.2.1,y15.2.1.1.2.2.2.2.2.2.1,y15.2.1.1.2.2.2.2.2.2.2.1,y15.2.1.1.2.2.2.2.2.2.2.2.1,y15.2.2.2.1,y15.2.1.1.2.2.2.2.2.2.2.2.2.2.1,y15.2.1.1.2.2.2.2.2.2.2.2.2.2.2.1,y15.2.1.1.2.2.2.2.2.2.2.2.2.2.2.2.1),()))) (fun y15 =>none)
theorem yWl:ConOk prog 170 ⟨ylP,yrK,fun x=>yvO x.1 x.2.1 x.2.2.1⟩:=zkG (yRa) func170 ntmps170.symm fun x=>by kernel_rfl
def yrO (a0:dA) (a1:Int) (a2:List Int):dA:=yB a0 a1 a2
def ymd (a0:dA) (a1:Int) (a2:List Int):Bool:=yN a0.2.1 a1&&((a2.length:Int)==a0.2.1.1-1&&(a0.2.2.1.length:Int)==a0.2.1.1)
theorem yYI (a0:dA) (a1:Int) (a2:List Int) (hk:zjw ylP (a0,a1,a2,())) (hq:ymd a0 a1 a2=true):yvO a0 a1 a2=(fun n=>some ((),(n,()))) (yrO a0 a1 a2):=by
 simp only[ymd,Bool.and_eq_true,beq_iff_eq]at hq;have hg:=yl.1 (yW.1 hq.1).1;have hp:=yju hq.1
 have h1:ytS (yRz a1 a2 (yk a0.2.1 a1) a0)=some (.inl (yE4 (yB a0 a1 a2))) :=
  zkB (step:=yee) a0.2.2.1.length (fun i s=>yss a1 a2 (yk a0.2.1 a1) i s) (ybe (yk a0.2.1 a1) a0.2.1.1 a1 a2) (fun _ s=>s.2.2.1.length=a0.2.2.1.length∧s.2.1=a0.2.1) (fun s=> .inl (yE4 s)) (fun i s hi hs=>⟨by
   have hN:s.2.1.1=a0.2.1.1:=by rw[hs.2]
   simp only[yee,yss,ys2,hs.1,zkw (show(i:Int)<a0.2.2.1.length by omega),cond_true,wq ((i:Int)+1) (by omega) (by omega),Int.natCast_add,Int.natCast_one,Int.toNat_natCast,zkV,ykG,yj3,yel,yeZ,ybe,yco];rw[← hN];by_cases he:(i:Int)=yk a0.2.1 a1
   ·rw[show((i:Int) !=yk a0.2.1 a1)=false by simp[he],show((i:Int)==yk a0.2.1 a1)=true from beq_iff_eq.2 he]
    rw[ymc s i (yy a1) [yaG a2] (zkP (by rw[hs.1]; exact hi))];cases ycQ s i a1<;>rfl
   ·have hd:=y6W (N:=s.2.1.1) (i:=i) (p:=yk a0.2.1 a1) ⟨by omega,by omega⟩ ⟨by omega,by omega⟩ ⟨hp.1,by omega⟩ he
    rw[show((i:Int) !=yk a0.2.1 a1)=true from bne_iff_ne.2 he,show((i:Int)==yk a0.2.1 a1)=false from beq_eq_false_iff_ne.2 he,show(s.2.1.1 !=0)=true from bne_iff_ne.2 (by omega),
     wq ((i:Int)-yk a0.2.1 a1) (by omega) (by omega),wq ((i:Int)-yk a0.2.1 a1-1) (by omega) (by omega),wq ((i:Int)-yk a0.2.1 a1-1+s.2.1.1) (by omega) (by omega),zj4.2 (show 0≤((i:Int)-yk a0.2.1 a1-1+s.2.1.1).tmod s.2.1.1∧((i:Int)-yk a0.2.1 a1-1+s.2.1.1).tmod s.2.1.1<a2.length by omega)]
    rw[ymc s i (yy a1) [nth a2 (((i:Int)-yk a0.2.1 a1-1+s.2.1.1).tmod s.2.1.1) 0] (zkP (by rw[hs.1]; exact hi))]
    cases ycQ s i a1<;>rfl,(yq6 _ _ _ _ s i).trans hs.1,(yag (yKQ _ _ _ _ s i)).trans hs.2⟩) (fun s hs=>by simp only[yee,yss,ys2,hs.1,zk1 (Int.le_refl _),cond_false]) a0 ⟨rfl,rfl⟩ _ (by show _<18446744073709551616; omega)
 unfold yvO yrO ydY;exact(congrArg (fun z=>zkr z _ _) h1).trans rfl
def yie (a0:dA) (a1:Int) (a2:List Int):Option (zaY yrK×zak ylP):=bif ymd a0 a1 a2 then(fun n=>some ((),(n,()))) (yrO a0 a1 a2)else none
theorem yZw (a0:dA) (a1:Int) (a2:List Int) (h:ymd a0 a1 a2=true):yie a0 a1 a2=(fun n=>some ((),(n,()))) (yrO a0 a1 a2):=by unfold yie; rw[h]; rfl
def yGx:Con:=⟨ylP,yrK,fun x=>yie x.1 x.2.1 x.2.2.1⟩
theorem yZr:ConOk prog 170 yGx:=(yWl).mono (fun x r hk h=>zkW h (fun hq=>yYI x.1 x.2.1 x.2.2.1 hk hq))
def yXp:Code:=(f171.body).getD .skip
def yXR:Env:=zku TT [(174,ynz),(208,ynA)] []
theorem yOg:FrOk prog ⟨yXR,17,fun _=>none⟩ yXp:=zky yf yg ⟨yx0,yx1,trivial⟩
abbrev yxe:List Par:= [.pt tA (.pr .fz (.pr (.pr .fz .fz) (.pr (.ow (.pr (.ow .fz) (.pr (.ow (.pr .fz .fz)) (.pr .fz (.ow .fz))))) (.pr .fz (.pr .fz (.pr .fz (.pr .fz (.pr .fz (.pr (.ow (.pr .fz .fz)) (.pr .fz (.pr .fz .fz)))))))))))]
abbrev yxD:List OT:= []
def yFq (a0:dA):Option (zaY yxD×zak yxe) :=let r1:=yen a0;bif r1.2.2.2.2.2.2.2.2.2.2.1 then some ((),(r1,())) else let r2:=ybc (r1.1,r1.2.1,r1.2.2.1,r1.2.2.2.1,r1.2.2.2.2.1,r1.2.2.2.2.2.1,r1.2.2.2.2.2.1,r1.2.2.2.2.2.2.2);some ((),(r2,()))
theorem ySB:ConOk prog 171 ⟨yxe,yxD,fun x=>yFq x.1⟩:=zkG (yOg) func171 ntmps171.symm fun x=>by kernel_rfl
def yg4 (a0:dA):dA :=let r1:=yen a0;bif r1.2.2.2.2.2.2.2.2.2.2.1 then r1 else let r2:=ybc (r1.1,r1.2.1,r1.2.2.1,r1.2.2.2.1,r1.2.2.2.2.1,r1.2.2.2.2.2.1,r1.2.2.2.2.2.1,r1.2.2.2.2.2.2.2);r2
def yse:Con:=⟨yxe,yxD,fun x=>(fun n=>some ((),(n,()))) (yg4 x.1)⟩
theorem yVG (a0:dA):yFq a0=(fun n=>some ((),(n,()))) (yg4 a0):=zkT (p:=fun(n:dA)=>((),(n,()))) (zkE (p:=fun(n:dA)=>((),(n,()))) rfl rfl)
theorem yGM:ConOk prog 171 yse:=(ySB).mono (fun x r _ h=>(yVG x.1).trans h)
theorem yJA (a:dA):yg4 a=yq a:=by
 unfold yg4 yq yen ybc;show(bif ya (ye a)then ye a else yD (yV (ye a)))=_;rfl
def yXq:Code:=(f217.body).getD .skip
def yXS:Env:=zku TT [(169,yHU),(170,yGx),(171,yse)] []
theorem yOh:FrOk prog ⟨yXS,54,fun _=>none⟩ yXq:=zky yf yg ⟨y1N,yZr,yGM,trivial⟩
abbrev ykg:List Par:= [.pt tA (.pr .fz (.pr (.pr .fz .fz) (.pr (.ow (.pr (.ow .fz) (.pr (.ow (.pr .fz .fz)) (.pr .fz (.ow .fz))))) (.pr .fz (.pr .fz (.pr .fz (.pr .fz (.pr .fz (.pr (.ow (.pr .fz .fz)) (.pr .fz (.pr .fz .fz))))))))))),.rd tI,.rd tL]
abbrev ypn:List OT:= [⟨false,tI,.fz⟩]
def ysR (a0:dA) (a1:Int) (a2:List Int):Option (zaY ypn×zak ykg) :=bif(leb 4 (i64.wrap (a0.2.2.2.2.2.1-a0.2.2.2.2.2.2.1)))then let r1:=yg4 a0;bif r1.2.2.2.2.2.2.2.2.2.2.1 then some ((6,()),(r1,())) else bif(zkj ([]:List Int).length a2.length 8)then let r2:=ykI r1 (r1.2.2.2.2.2.1,a1,(([]:List Int)++a2));bif r2.2.2.2.2.2.2.2.2.2.2.1 then some ((6,()),(r2,())) else bnd (yie (r2.1,r2.2.1,r2.2.2.1,r2.2.2.2.1,r2.2.2.2.2.1,(i64.wrap (r2.2.2.2.2.2.1+1)),r2.2.2.2.2.2.2) a1 a2) fun r3 =>bif r3.2.1.2.2.2.2.2.2.2.2.2.2.1 then some ((6,()),(r3.2.1,())) else some ((0,()),(r3.2.1,())) else none else bif a0.2.2.2.2.2.2.2.2.2.2.1 then some ((6,()),(a0,())) else bif(zkj ([]:List Int).length a2.length 8)then let r4:=ykI a0 (a0.2.2.2.2.2.1,a1,(([]:List Int)++a2));bif r4.2.2.2.2.2.2.2.2.2.2.1 then some ((6,()),(r4,())) else bnd (yie (r4.1,r4.2.1,r4.2.2.1,r4.2.2.2.1,r4.2.2.2.2.1,(i64.wrap (r4.2.2.2.2.2.1+1)),r4.2.2.2.2.2.2) a1 a2) fun r5 =>bif r5.2.1.2.2.2.2.2.2.2.2.2.2.1 then some ((6,()),(r5.2.1,())) else some ((0,()),(r5.2.1,())) else none
theorem ySC:ConOk prog 217 ⟨ykg,ypn,fun x=>ysR x.1 x.2.1 x.2.2.1⟩:=zkG (yOh) func217 ntmps217.symm fun x=>by kernel_rfl
def ykJ (a0:dA) (a1:Int) (a2:List Int):Int×dA:=yA a0 a1 a2
def ykP (a0:dA) (a1:Int) (a2:List Int):Bool:=yN a0.2.1 a1&&((a2.length:Int)==a0.2.1.1-1&&(a0.2.2.1.length:Int)==a0.2.1.1)
theorem yVH (a0:dA) (a1:Int) (a2:List Int) (hk:zjw ykg (a0,a1,a2,())) (hq:ykP a0 a1 a2=true):ysR a0 a1 a2=(fun n=>some ((n.1,()),(n.2,()))) (ykJ a0 a1 a2):=by
 have hq':=hq;simp only[ykP,Bool.and_eq_true,beq_iff_eq]at hq;have hg:=yl.1 (yW.1 hq.1).1;have hap:zkj ([]:List Int).length a2.length 8=true:=zkD.2 (by simp only[List.length_nil]; omega)
 have key: ∀b:dA,b.2.1=a0.2.1→b.2.2.1.length=a0.2.2.1.length→yie (yC (yp b (b.2.2.2.2.2.1,a1,a2))) a1 a2=some ((),(yB (yC (yp b (b.2.2.2.2.2.1,a1,a2))) a1 a2,())):=fun b h1 h2=>yZw _ _ _ (by
  unfold ymd;rw[show(yC (yp b (b.2.2.2.2.2.1,a1,a2))).2.1=a0.2.1 from(yag (ya6 _ _)).trans h1,show(yC (yp b (b.2.2.2.2.2.1,a1,a2))).2.2.1.length=a0.2.2.1.length from(yIv _ _).trans h2]
  exact hq')
 unfold ysR ykJ yA yw;simp only[yJA,ykI,List.nil_append,hap,cond_true];cases leb 4 (i64.wrap (a0.2.2.2.2.2.1-a0.2.2.2.2.2.2.1))
 ·have hd:=key a0 rfl rfl
  simp only[cond_false];generalize yp a0 (a0.2.2.2.2.2.1,a1,a2)=R at hd ⊢;generalize yB (yC R) a1 a2=Q at hd ⊢;unfold yC at hd;simp only[cond_false,hd,zkF];unfold ya;cases a0.2.2.2.2.2.2.2.2.2.2.1
  ·cases R.2.2.2.2.2.2.2.2.2.2.1
   ·cases Q.2.2.2.2.2.2.2.2.2.2.1<;>rfl
   ·rfl
  ·rfl
 ·have hd:=key (yq a0) (yKO a0) (yZH a0)
  simp only[cond_true];generalize yq a0=C at hd ⊢;generalize yp C (C.2.2.2.2.2.1,a1,a2)=R at hd ⊢;generalize yB (yC R) a1 a2=Q at hd ⊢;unfold yC at hd;simp only[cond_true,hd,zkF];unfold ya;cases C.2.2.2.2.2.2.2.2.2.2.1
  ·cases R.2.2.2.2.2.2.2.2.2.2.1
   ·cases Q.2.2.2.2.2.2.2.2.2.2.1<;>rfl
   ·rfl
  ·rfl
def ypH (a0:dA) (a1:Int) (a2:List Int):Option (zaY ypn×zak ykg):=bif ykP a0 a1 a2 then(fun n=>some ((n.1,()),(n.2,()))) (ykJ a0 a1 a2)else none
theorem yWP (a0:dA) (a1:Int) (a2:List Int) (h:ykP a0 a1 a2=true):ypH a0 a1 a2=(fun n=>some ((n.1,()),(n.2,()))) (ykJ a0 a1 a2):=by unfold ypH; rw[h]; rfl
def yEv:Con:=⟨ykg,ypn,fun x=>ypH x.1 x.2.1 x.2.2.1⟩
theorem yWI:ConOk prog 217 yEv:=(ySC).mono (fun x r hk h=>zkW h (fun hq=>yVH x.1 x.2.1 x.2.2.1 hk hq))
def yXr:Code:=(f179.body).getD .skip
def yXT:Env:=zku TT [(215,yA2),(216,yGw),(217,yEv)] [(36928,(.pr .fz .fz))]
theorem yOi:FrOk prog ⟨yXT,63,fun _=>none⟩ yXr:=zky yf yg ⟨yMo,yZq,yWI,trivial⟩
abbrev ykh:List Par:= [.pt tA (.pr .fz (.pr (.pr .fz .fz) (.pr (.ow (.pr (.ow .fz) (.pr (.ow (.pr .fz .fz)) (.pr .fz (.ow .fz))))) (.pr .fz (.pr .fz (.pr .fz (.pr .fz (.pr .fz (.pr (.ow (.pr .fz .fz)) (.pr .fz (.pr .fz .fz))))))))))),.rd tI]
abbrev ypo:List OT:= [⟨false,tI,.fz⟩]
def ysS (a0:dA) (a1:Int):Option (zaY ypo×zak ykh) :=let r1:=yjD a0 a1;bif(ltb r1 0)then some ((0,()),(a0,())) else bif(inb r1 a0.2.2.2.2.2.2.2.2.1.length)then let r2:=yO a0 a1 ((nth a0.2.2.2.2.2.2.2.2.1 r1 (0,[])).2);bif(r2 !=0)then some ((r2,()),(a0,())) else bif(inb r1 a0.2.2.2.2.2.2.2.2.1.length)then bnd (ypH a0 a1 ((nth a0.2.2.2.2.2.2.2.2.1 r1 (0,[])).2)) fun r3 =>bif(r3.1.1==0)then bif(zjY 0 r1 r3.2.1.2.2.2.2.2.2.2.2.1.length)then bif(zkj ([]:List dW).length ((r3.2.1.2.2.2.2.2.2.2.2.1.drop (0:Int).toNat).take (r1-0).toNat).length 32)then bif(zjY (i64.wrap (r1+1)) (r3.2.1.2.2.2.2.2.2.2.2.1.length:Int) r3.2.1.2.2.2.2.2.2.2.2.1.length)then bif(zkj (([]:List dW)++((r3.2.1.2.2.2.2.2.2.2.2.1.drop (0:Int).toNat).take (r1-0).toNat)).length ((r3.2.1.2.2.2.2.2.2.2.2.1.drop ((i64.wrap (r1+1))).toNat).take ((r3.2.1.2.2.2.2.2.2.2.2.1.length:Int)-(i64.wrap (r1+1))).toNat).length 32)then some ((r3.1.1,()),((r3.2.1.1,r3.2.1.2.1,r3.2.1.2.2.1,r3.2.1.2.2.2.1,r3.2.1.2.2.2.2.1,r3.2.1.2.2.2.2.2.1,r3.2.1.2.2.2.2.2.2.1,r3.2.1.2.2.2.2.2.2.2.1,((([]:List dW)++((r3.2.1.2.2.2.2.2.2.2.2.1.drop (0:Int).toNat).take (r1-0).toNat))++((r3.2.1.2.2.2.2.2.2.2.2.1.drop ((i64.wrap (r1+1))).toNat).take ((r3.2.1.2.2.2.2.2.2.2.2.1.length:Int)-(i64.wrap (r1+1))).toNat)),r3.2.1.2.2.2.2.2.2.2.2.2),())) else none else none else none else none else some ((r3.1.1,()),(r3.2.1,())) else none else none
theorem ySD:ConOk prog 179 ⟨ykh,ypo,fun x=>ysS x.1 x.2.1⟩:=zkG (yOi) func179 ntmps179.symm fun x=>by kernel_rfl
def ykK (a0:dA) (a1:Int):Int×dA:=yaW a0 a1
def yx6 (a0:dA) (a1:Int):Bool:=decide (a0.2.2.2.2.2.2.2.2.1.length≤1000)
theorem yVI (a0:dA) (a1:Int) (hk:zjw ykh (a0,a1,())) (hq:yx6 a0 a1=true):ysS a0 a1=(fun n=>some ((n.1,()),(n.2,()))) (ykK a0 a1):=by
 have hq:=of_decide_eq_true hq;unfold ysS ykK yaW;simp only[yjD];cases h0:ltb (yan a0.2.2.2.2.2.2.2.2.1 a1) 0
 ·have h1:=zkU h0
  have hi:inb (yan a0.2.2.2.2.2.2.2.2.1 a1) a0.2.2.2.2.2.2.2.2.1.length=true:=(yn8 (d:=((0:Int),([]:List Int))) (zk0 h1)).1;simp only[hi,cond_true,cond_false];generalize hD:(nth a0.2.2.2.2.2.2.2.2.1 (yan a0.2.2.2.2.2.2.2.2.1 a1) (0,[])).2=D;cases hc:(yO a0 a1 D !=0)
  ·obtain⟨ha,hl,hw,hd,hs,hb,_⟩:=yyP (bne_eq_false_iff_eq.1 hc)
   rw[yWP a0 a1 D (by unfold ykP; rw[hs,hl,yFY ha]; simp)];simp only[zkF,cond_false,ykJ,y3w];have hk:=zj4.1 hi;cases hr:((yA a0 a1 D).1==0)
   ·rfl
   ·generalize yan a0.2.2.2.2.2.2.2.2.1 a1=K at h1 hk
    rw[wq (K+1) (by omega) (by omega),zkx.2 (show(0:Int)≤0∧0≤K∧K≤(a0.2.2.2.2.2.2.2.2.1.length:Int)by omega),zkx.2 (show 0≤K+1∧K+1≤(a0.2.2.2.2.2.2.2.2.1.length:Int)∧(a0.2.2.2.2.2.2.2.2.1.length:Int)≤(a0.2.2.2.2.2.2.2.2.1.length:Int)by omega),
     zkD.2 (by rw[List.length_take,List.length_drop,List.length_nil]; omega),zkD.2 (by rw[List.length_append,List.length_take,List.length_take,List.length_drop,List.length_drop,List.length_nil]; omega),y4J h1 hk.2]
    rw[beq_iff_eq.1 hr]; rfl
  ·rfl
 ·rfl
def ydk (a0:dA) (a1:Int):Option (zaY ypo×zak ykh):=bif yx6 a0 a1 then(fun n=>some ((n.1,()),(n.2,()))) (ykK a0 a1)else none
theorem yGP (a0:dA) (a1:Int) (h:yx6 a0 a1=true):ydk a0 a1=(fun n=>some ((n.1,()),(n.2,()))) (ykK a0 a1):=by unfold ydk; rw[h]; rfl
def ysf:Con:=⟨ykh,ypo,fun x=>ydk x.1 x.2.1⟩
theorem yGN:ConOk prog 179 ysf:=(ySD).mono (fun x r hk h=>zkW h (fun hq=>yVI x.1 x.2.1 hk hq))
def ytu:Code:=(f117.body).getD .skip
def yDs:Env:=zku TT [(179,ysf)] []
theorem yUV:FrOk prog ⟨yDs,22,fun _=>none⟩ ytu:=zky yf yg ⟨yGN,trivial⟩
def yHG:Nat→Option Seg:=fun _=>none
def yeL:Shape:=⟨[(0,false,[.ptr 1000000000 0])],[(1000000000,[.int .i64,.int .i64,.int .i64,.at 800000000,.int .i64,.int .i64,.int .i64,.int .i64,.int .i64,.at 800000001,.int .i64,.bool,.bool])],[(800000000,tM,(.pr (.ow .fz) (.pr (.ow (.pr .fz .fz)) (.pr .fz (.ow .fz))))),(800000001,tW,(.pr .fz .fz))]⟩
def ykm:Shape:=⟨[(0,false,[.ptr 1000000000 0])],[(1000000000,[.int .i64,.int .i64,.int .i64,.at 800000000,.int .i64,.int .i64,.int .i64,.int .i64,.int .i64,.at 800000001,.int .i64,.bool,.bool])],[(800000000,tM,(.pr (.ow .fz) (.pr (.ow (.pr .fz .fz)) (.pr .fz (.ow .fz))))),(800000001,tW,(.pr .fz .fz))]⟩
def ykj:Shape:=⟨[],[(1000000000,[.int .i64,.int .i64,.int .i64,.at 800000000,.int .i64,.int .i64,.int .i64,.int .i64,.int .i64,.at 800000001,.int .i64,.bool,.bool])],[(800000000,tM,(.pr (.ow .fz) (.pr (.ow (.pr .fz .fz)) (.pr .fz (.ow .fz))))),(800000001,tW,(.pr .fz .fz))]⟩
def ykp:Shape:=⟨[(2,false,[.int .i64])],[(1000000000,[.int .i64,.int .i64,.int .i64,.at 800000000,.int .i64,.int .i64,.int .i64,.int .i64,.int .i64,.at 800000001,.int .i64,.bool,.bool])],[(800000000,tM,(.pr (.ow .fz) (.pr (.ow (.pr .fz .fz)) (.pr .fz (.ow .fz))))),(800000001,tW,(.pr .fz .fz))]⟩
abbrev yvi (v0:dA):(yeL).X:=((((),()),()),((v0.1,v0.2.1.1,v0.2.1.2,(),v0.2.2.2.1,v0.2.2.2.2.1,v0.2.2.2.2.2.1,v0.2.2.2.2.2.2.1,v0.2.2.2.2.2.2.2.1,(),v0.2.2.2.2.2.2.2.2.2.1,v0.2.2.2.2.2.2.2.2.2.2.1,v0.2.2.2.2.2.2.2.2.2.2.2,()),()),(v0.2.2.1,v0.2.2.2.2.2.2.2.2.1,()))
abbrev yVc (v0:dA):(ykm).X:=((((),()),()),((v0.1,v0.2.1.1,v0.2.1.2,(),v0.2.2.2.1,v0.2.2.2.2.1,v0.2.2.2.2.2.1,v0.2.2.2.2.2.2.1,v0.2.2.2.2.2.2.2.1,(),v0.2.2.2.2.2.2.2.2.2.1,v0.2.2.2.2.2.2.2.2.2.2.1,v0.2.2.2.2.2.2.2.2.2.2.2,()),()),(v0.2.2.1,v0.2.2.2.2.2.2.2.2.1,()))
abbrev yU9 (v0:dA):(ykj).X:=((),((v0.1,v0.2.1.1,v0.2.1.2,(),v0.2.2.2.1,v0.2.2.2.2.1,v0.2.2.2.2.2.1,v0.2.2.2.2.2.2.1,v0.2.2.2.2.2.2.2.1,(),v0.2.2.2.2.2.2.2.2.2.1,v0.2.2.2.2.2.2.2.2.2.2.1,v0.2.2.2.2.2.2.2.2.2.2.2,()),()),(v0.2.2.1,v0.2.2.2.2.2.2.2.2.1,()))
abbrev yVe (v0:Int) (v1:dA):(ykp).X:=(((v0,()),()),((v1.1,v1.2.1.1,v1.2.1.2,(),v1.2.2.2.1,v1.2.2.2.2.1,v1.2.2.2.2.2.1,v1.2.2.2.2.2.2.1,v1.2.2.2.2.2.2.2.1,(),v1.2.2.2.2.2.2.2.2.2.1,v1.2.2.2.2.2.2.2.2.2.2.1,v1.2.2.2.2.2.2.2.2.2.2.2,()),()),(v1.2.2.1,v1.2.2.2.2.2.2.2.2.1,()))
def yvZ (v0 v1 v2 v3 v4 v5 v6 v7 v8:Int) (v9 v10:Bool) (v11:List dM) (v12:List dW):Option ((yeL).X ⊕ ((ykj).X ⊕ (ykp).X)) :=bif(ltb 0 (v12.length:Int))then bif(inb 0 v12.length)then bnd (ydk (v0,(v1,v2),v11,v3,v4,v5,v6,v7,v12,v8,v9,v10) ((nth v12 0 (0,[])).1)) fun r2 =>bif(r2.1.1 !=0)then some (.inr (.inr (((r2.1.1,()),()),((r2.2.1.1,r2.2.1.2.1.1,r2.2.1.2.1.2,(),r2.2.1.2.2.2.1,r2.2.1.2.2.2.2.1,r2.2.1.2.2.2.2.2.1,r2.2.1.2.2.2.2.2.2.1,r2.2.1.2.2.2.2.2.2.2.1,(),r2.2.1.2.2.2.2.2.2.2.2.2.1,r2.2.1.2.2.2.2.2.2.2.2.2.2.1,r2.2.1.2.2.2.2.2.2.2.2.2.2.2,()),()),(r2.2.1.2.2.1,r2.2.1.2.2.2.2.2.2.2.2.1,())))) else some (.inl ((((),()),()),((r2.2.1.1,r2.2.1.2.1.1,r2.2.1.2.1.2,(),r2.2.1.2.2.2.1,r2.2.1.2.2.2.2.1,r2.2.1.2.2.2.2.2.1,r2.2.1.2.2.2.2.2.2.1,r2.2.1.2.2.2.2.2.2.2.1,(),r2.2.1.2.2.2.2.2.2.2.2.2.1,r2.2.1.2.2.2.2.2.2.2.2.2.2.1,r2.2.1.2.2.2.2.2.2.2.2.2.2.2,()),()),(r2.2.1.2.2.1,r2.2.1.2.2.2.2.2.2.2.2.1,()))) else none else some (.inr (.inl ((),((v0,v1,v2,(),v3,v4,v5,v6,v7,(),v8,v9,v10,()),()),(v11,v12,()))))
def ye1 (x:(yeL).X):=yvZ x.2.1.1.1 x.2.1.1.2.1 x.2.1.1.2.2.1 x.2.1.1.2.2.2.2.1 x.2.1.1.2.2.2.2.2.1 x.2.1.1.2.2.2.2.2.2.1 x.2.1.1.2.2.2.2.2.2.2.1 x.2.1.1.2.2.2.2.2.2.2.2.1 x.2.1.1.2.2.2.2.2.2.2.2.2.2.1 x.2.1.1.2.2.2.2.2.2.2.2.2.2.2.1 x.2.1.1.2.2.2.2.2.2.2.2.2.2.2.2.1 x.2.2.1 x.2.2.2.1
def yGz (x:(ykm).X):(yeL).X:=((((),()),()),((x.2.1.1.1,x.2.1.1.2.1,x.2.1.1.2.2.1,(),x.2.1.1.2.2.2.2.1,x.2.1.1.2.2.2.2.2.1,x.2.1.1.2.2.2.2.2.2.1,x.2.1.1.2.2.2.2.2.2.2.1,x.2.1.1.2.2.2.2.2.2.2.2.1,(),x.2.1.1.2.2.2.2.2.2.2.2.2.2.1,x.2.1.1.2.2.2.2.2.2.2.2.2.2.2.1,x.2.1.1.2.2.2.2.2.2.2.2.2.2.2.2.1,()),()),(x.2.2.1,x.2.2.2.1,()))
def yHN:Code:=(zeJ ytu 64 24).getD .skip
theorem yXV:zeJ ytu 64 6=some (.block 0 (.loop yHN)):=by kernel_rfl
theorem yZy (x:(yeL).X):zhu ⟨yDs,22,yHG⟩ 0 yHN 24 yeL ykj ykp x=ye1 x:=by kernel_rfl
def yGC (x:(ykm).X):Nat:=18446744073709551616
def yw3 (x:(ykm).X):Option ((ykj).X ⊕ (ykp).X):=zF ye1 (yGC x) (yGz x)
def yG8:Seg:=⟨ykm,ykj,ykp,yw3⟩
def yXB:Nat→Option Seg:=fun q=>bif Nat.beq q 6 then some yG8 else yHG q
theorem yUW:FrOk prog ⟨yDs,22,yXB⟩ ytu:=(yUV).loop (sg:=yG8) yeL yGz (by decide) yXV ye1 yGC (by decide) (fun _=>rfl) (fun x r _ h=>h) yZy
abbrev ynU:List Par:= [.pt tA (.pr .fz (.pr (.pr .fz .fz) (.pr (.ow (.pr (.ow .fz) (.pr (.ow (.pr .fz .fz)) (.pr .fz (.ow .fz))))) (.pr .fz (.pr .fz (.pr .fz (.pr .fz (.pr .fz (.pr (.ow (.pr .fz .fz)) (.pr .fz (.pr .fz .fz)))))))))))]
abbrev yuA:List OT:= [⟨false,tI,.fz⟩]
def yyh (a0:dA):Option (zaY yuA×zak ynU) :=zkr (yw3 ((((),()),()),((a0.1,a0.2.1.1,a0.2.1.2,(),a0.2.2.2.1,a0.2.2.2.2.1,a0.2.2.2.2.2.1,a0.2.2.2.2.2.2.1,a0.2.2.2.2.2.2.2.1,(),a0.2.2.2.2.2.2.2.2.2.1,a0.2.2.2.2.2.2.2.2.2.2.1,a0.2.2.2.2.2.2.2.2.2.2.2,()),()),(a0.2.2.1,a0.2.2.2.2.2.2.2.2.1,()))) (fun y2 =>some ((0,()),((y2.2.1.1.1,(y2.2.1.1.2.1,y2.2.1.1.2.2.1),y2.2.2.1,y2.2.1.1.2.2.2.2.1,y2.2.1.1.2.2.2.2.2.1,y2.2.1.1.2.2.2.2.2.2.1,y2.2.1.1.2.2.2.2.2.2.2.1,y2.2.1.1.2.2.2.2.2.2.2.2.1,y2.2.2.2.1,y2.2.1.1.2.2.2.2.2.2.2.2.2.2.1,y2.2.1.1.2.2.2.2.2.2.2.2.2.2.2.1,y2.2.1.1.2.2.2.2.2.2.2.2.2.2.2.2.1),()))) (fun y2 =>some ((y2.1.1.1,()),((y2.2.1.1.1,(y2.2.1.1.2.1,y2.2.1.1.2.2.1),y2.2.2.1,y2.2.1.1.2.2.2.2.1,y2.2.1.1.2.2.2.2.2.1,y2.2.1.1.2.2.2.2.2.2.1,y2.2.1.1.2.2.2.2.2.2.2.1,y2.2.1.1.2.2.2.2.2.2.2.2.1,y2.2.2.2.1,y2.2.1.1.2.2.2.2.2.2.2.2.2.2.1,y2.2.1.1.2.2.2.2.2.2.2.2.2.2.2.1,y2.2.1.1.2.2.2.2.2.2.2.2.2.2.2.2.1),())))
theorem yY5:ConOk prog 117 ⟨ynU,yuA,fun x=>yyh x.1⟩:=zkG (yUW) func117 ntmps117.symm fun x=>by kernel_rfl
def yvq (a0:dA):Int×dA:=yKM a0
def yFh (a0:dA):Bool:=decide (a0.2.2.2.2.2.2.2.2.1.length≤1000)
theorem y1C (a0:dA) (hk:zjw ynU (a0,())) (hq:yFh a0=true):yyh a0=(fun n=>some ((n.1,()),(n.2,()))) (yvq a0):=by
 have hq:=of_decide_eq_true hq
 have h1:=zkA (step:=ye1) a0.2.2.2.2.2.2.2.2.1.length (fun _ s=>yvi s) ymq (fun i s=>s.2.2.2.2.2.2.2.2.1.length+i=a0.2.2.2.2.2.2.2.2.1.length) (fun b=>(0,b))
  (fun r=>bif r.1==0 then .inl (yU9 r.2)else .inr (yVe r.1 r.2)) (fun i s hi hs=>by
   have hp:0<s.2.2.2.2.2.2.2.2.1.length:=by omega
   constructor
   ·simp only[ye1,yvi,yvZ,zkV,zkw (show(0:Int)<(s.2.2.2.2.2.2.2.2.1.length:Int)by omega),cond_true,show inb 0 s.2.2.2.2.2.2.2.2.1.length=true from zkP (i:=0) hp]
    rw[yGP s (nth s.2.2.2.2.2.2.2.2.1 0 (0,[])).1 (decide_eq_true (show s.2.2.2.2.2.2.2.2.1.length≤1000 by omega))];simp only[zkF,ykK];unfold ymq;generalize yaW s (nth s.2.2.2.2.2.2.2.2.1 0 (0,[])).1=R;cases hr:(R.1 !=0)
    ·rfl
    ·simp only[cond_true]
     rw[show(R.1==0)=false from beq_eq_false_iff_ne.2 (bne_iff_ne.1 hr)]; rfl
   ·intro s' h
    unfold ymq at h;cases hr:((yaW s (nth s.2.2.2.2.2.2.2.2.1 0 (0,[])).1).1 !=0)
    ·rw[hr]at h
     simp only[cond_false,Sum.inl.injEq]at h;rw[← h,y4c hp (bne_eq_false_iff_eq.1 hr),List.length_drop]; omega
    ·rw[hr]at h; cases h) (fun s hs=>by
   simp only[ye1,yvi,yvZ,show ltb 0 (s.2.2.2.2.2.2.2.2.1.length:Int)=false from zk1 (by omega)]; rfl) a0 rfl 18446744073709551616 (by omega)
 unfold yyh yvq yKM;refine(congrArg (fun z=>zkr z _ _) (show yw3 (yVc a0)=_ from h1)).trans ?_;generalize goE ymq (fun b=>(0,b)) a0.2.2.2.2.2.2.2.2.1.length 0 a0=R;cases hr:(R.1==0)
 ·rfl
 ·simp only[cond_true,zkL,zkV]
  rw[show R.1=0 from beq_iff_eq.1 hr]
def yor (a0:dA):Option (zaY yuA×zak ynU):=bif yFh a0 then(fun n=>some ((n.1,()),(n.2,()))) (yvq a0)else none
theorem y1R (a0:dA) (h:yFh a0=true):yor a0=(fun n=>some ((n.1,()),(n.2,()))) (yvq a0):=by unfold yor; rw[h]; rfl
def yHV:Con:=⟨ynU,yuA,fun x=>yor x.1⟩
theorem y1O:ConOk prog 117 yHV:=(yY5).mono (fun x r hk h=>zkW h (fun hq=>y1C x.1 hk hq))
def y2b:Code:=(f80.body).getD .skip
def y2m:Env:=zku TT [(72,ya4)] []
theorem yUM:FrOk prog ⟨y2m,12,fun _=>none⟩ y2b:=zky yf yg ⟨ycq,trivial⟩
abbrev yDA:List Par:= [.pt tU .fz,.rd tL]
abbrev yDQ:List OT:= [⟨false,tI,.fz⟩]
def yeY (a0:dU) (a1:List Int):Option (zaY yDQ×zak yDA) :=bnd (yo a0 (a1.length:Int)) fun r1 =>bif(inb r1.1.1 a1.length)then some (((nth a1 r1.1.1 0),()),(r1.2.1,())) else none
theorem yYZ:ConOk prog 80 ⟨yDA,yDQ,fun x=>yeY x.1 x.2.1⟩:=zkG (yUM) func80 ntmps80.symm fun x=>by kernel_rfl
def ypr:Con:=⟨yDA,yDQ,fun x=>yeY x.1 x.2.1⟩
theorem yA9:ConOk prog 80 ypr:=yYZ
theorem y2v (u:List Int×Int×Int) (l:List Int) (h:ycM u) (hl:l≠ []): ∃(r:Int) (u':List Int×Int×Int),yeY u l=some ((r,()),(u',()))∧r∈l∧ycM u':=by
 unfold yeY;obtain⟨r1,u1,e1,q1,d1⟩:=yda u (l.length:Int) h;have hp:0<l.length:=List.length_pos_iff.2 hl;have hr:=q1.2.1 (by omega);simp only[e1,zkF,zj4.2 ⟨q1.1,hr⟩,cond_true];refine⟨_,_,rfl,?_,d1⟩;have:r1.toNat<l.length:=by have:=q1.1; omega
 unfold nth;rw[List.getD_eq_getElem?_getD,List.getElem?_eq_getElem this,Option.getD_some];exact List.getElem_mem this
def y0E:Code:=(f120.body).getD .skip
def y1a:Env:=zku TT [(80,ypr)] []
theorem yQS:FrOk prog ⟨y1a,6,fun _=>none⟩ y0E:=zky yf yg ⟨yA9,trivial⟩
abbrev yAj:List Par:= [.pt tU .fz]
abbrev yAP:List OT:= [⟨false,tI,.fz⟩]
def ybw (a0:dU):Option (zaY yAP×zak yAj) :=bnd (yeY a0 ([0,1,2,7,255,256,4660,65535]:List Int)) fun r1 =>some ((r1.1.1,()),(r1.2.1,()))
theorem yV9:ConOk prog 120 ⟨yAj,yAP,fun x=>ybw x.1⟩:=zkG (yQS) func120 ntmps120.symm fun x=>by kernel_rfl
def yGq:Con:=⟨yAj,yAP,fun x=>ybw x.1⟩
theorem yZk:ConOk prog 120 yGq:=yV9
theorem y55 (u:List Int×Int×Int) (h:ycM u): ∃(r:Int) (u':List Int×Int×Int),ybw u=some ((r,()),(u',()))∧yb r 0 65535=true∧ycM u':=by
 unfold ybw;obtain⟨r1,u1,e1,q1,d1⟩:=y2v u [0,1,2,7,255,256,4660,65535] h (by simp);simp only[e1,zkF];refine⟨_,_,rfl,?_,d1⟩;simp only[List.mem_cons,List.not_mem_nil,or_false]at q1;exact y6X (by omega) (by omega)
def yTy:Code:=(f203.body).getD .skip
def yT1:Env:=zku TT [(174,ynz),(177,yuS),(178,yny)] []
theorem yLr:FrOk prog ⟨yT1,27,fun _=>none⟩ yTy:=zky yf yg ⟨yx0,yIh,yxZ,trivial⟩
abbrev yis:List Par:= [.pt tA (.pr .fz (.pr (.pr .fz .fz) (.pr (.ow (.pr (.ow .fz) (.pr (.ow (.pr .fz .fz)) (.pr .fz (.ow .fz))))) (.pr .fz (.pr .fz (.pr .fz (.pr .fz (.pr .fz (.pr (.ow (.pr .fz .fz)) (.pr .fz (.pr .fz .fz)))))))))))]
abbrev yni:List OT:= [⟨false,tI,.fz⟩]
def yqP (a0:dA):Option (zaY yni×zak yis) :=let r1:=ycX a0.2.1;let r2:=yem r1;bif(inb a0.2.2.2.1 a0.2.2.1.length)then let r3:=ybc (a0.1,a0.2.1,(a0.2.2.1.set (a0.2.2.2.1).toNat r2),a0.2.2.2.1,0,a0.2.2.2.2.2);bif r3.2.2.2.2.2.2.2.2.2.2.1 then some ((6,()),(r3,())) else some ((0,()),(r3,())) else none
theorem yO7:ConOk prog 203 ⟨yis,yni,fun x=>yqP x.1⟩:=zkG (yLr) func203 ntmps203.symm fun x=>by kernel_rfl
def ynE (a0:dA):Int×dA:=(bif ya (yD (yaa a0))then 6 else 0,yD (yaa a0))
def yjw (a0:dA):Bool:=yd a0.2.1&&inb a0.2.2.2.1 a0.2.2.1.length
theorem yR6 (a0:dA) (hk:zjw yis (a0,())) (hq:yjw a0=true):yqP a0=(fun n=>some ((n.1,()),(n.2,()))) (ynE a0):=by
 simp only[yjw,Bool.and_eq_true]at hq;have hg:=yl.1 hq.1;unfold yqP ynE;simp only[ycX,wq (6+a0.2.1.2) (by omega) (by omega),hq.2,yem,ybc];show(bif ya (yD (yaa a0))then some ((6,()),(yD (yaa a0),()))else some ((0,()),(yD (yaa a0),())))=_;cases ya (yD (yaa a0))<;>rfl
def yjs (a0:dA):Option (zaY yni×zak yis):=bif yjw a0 then(fun n=>some ((n.1,()),(n.2,()))) (ynE a0)else none
theorem ySZ (a0:dA) (h:yjw a0=true):yjs a0=(fun n=>some ((n.1,()),(n.2,()))) (ynE a0):=by unfold yjs; rw[h]; rfl
def yBW:Con:=⟨yis,yni,fun x=>yjs x.1⟩
theorem ySV:ConOk prog 203 yBW:=(yO7).mono (fun x r hk h=>zkW h (fun hq=>yR6 x.1 hk hq))
def yXn:Code:=(f204.body).getD .skip
def yXP:Env:=zku TT [(113,ydT),(206,yks),(227,ysd)] []
theorem yN8:FrOk prog ⟨yXP,49,fun _=>none⟩ yXn:=zky yf yg ⟨yg5,yrS,yGL,trivial⟩
abbrev ykd:List Par:= [.pt tA (.pr .fz (.pr (.pr .fz .fz) (.pr (.ow (.pr (.ow .fz) (.pr (.ow (.pr .fz .fz)) (.pr .fz (.ow .fz))))) (.pr .fz (.pr .fz (.pr .fz (.pr .fz (.pr .fz (.pr (.ow (.pr .fz .fz)) (.pr .fz (.pr .fz .fz)))))))))))]
abbrev ypk:List OT:= [⟨false,tI,.fz⟩]
def ysN (a0:dA):Option (zaY ypk×zak ykd) :=bnd (ykN a0 a0.2.2.2.2.1) fun r1 =>bif(!r1.1.2.1)then some ((5,()),(a0,())) else let r2:=yba a0.2.2.2.2.1;bif(inb a0.2.2.2.1 r1.1.1.length)then bnd (yfC a0 a0.2.2.2.1 r2 ([(nth r1.1.1 a0.2.2.2.1 0)]:List Int)) fun r3 =>bif r3.2.1.2.2.2.2.2.2.2.2.2.2.1 then some ((6,()),(r3.2.1,())) else some ((0,()),((r3.2.1.1,r3.2.1.2.1,r3.2.1.2.2.1,r3.2.1.2.2.2.1,(i64.wrap (r3.2.1.2.2.2.2.1+1)),r3.2.1.2.2.2.2.2),())) else none
theorem ySw:ConOk prog 204 ⟨ykd,ypk,fun x=>ysN x.1⟩:=zkG (yN8) func204 ntmps204.symm fun x=>by kernel_rfl
def ypB (a0:dA):Int×dA:=yfT a0
def ykO (a0:dA):Bool:=yd a0.2.1&&(inb a0.2.2.2.1 a0.2.2.1.length&&inb a0.2.2.2.1 a0.2.1.1.toNat)
theorem yVC (a0:dA) (hk:zjw ykd (a0,())) (hq:ykO a0=true):ysN a0=(fun n=>some ((n.1,()),(n.2,()))) (ypB a0):=by
 simp only[ykO,Bool.and_eq_true]at hq;unfold ysN ypB yfT;rw[yGO a0 a0.2.2.2.2.1 hq.1];simp only[zkF,yg3,yeZ];cases hw:(yR a0 a0.2.2.2.2.1).2
 ·rfl
 ·rw[yMK hw,hq.2.2,ymc a0 a0.2.2.2.1 (yy a0.2.2.2.2.1) [nth (yR a0 a0.2.2.2.2.1).1 a0.2.2.2.1 0] hq.2.1]
  simp only[zkF,yoq,Bool.not_true,cond_false,cond_true];show(bif ya (yaK a0)then some ((6,()),(yaK a0,()))else some ((0,()),(y46 (yaK a0),())))=_;cases ya (yaK a0)<;>rfl
def ykM (a0:dA):Option (zaY ypk×zak ykd):=bif ykO a0 then(fun n=>some ((n.1,()),(n.2,()))) (ypB a0)else none
theorem yWN (a0:dA) (h:ykO a0=true):ykM a0=(fun n=>some ((n.1,()),(n.2,()))) (ypB a0):=by unfold ykM; rw[h]; rfl
def yEt:Con:=⟨ykd,ypk,fun x=>ykM x.1⟩
theorem yWG:ConOk prog 204 yEt:=(ySw).mono (fun x r hk h=>zkW h (fun hq=>yVC x.1 hk hq))
def y0J:Code:=(f163.body).getD .skip
def y1f:Env:=zku TT [(72,ya4),(83,yGr),(108,yEs),(112,yBT),(113,ydT),(117,yHV),(118,yHX),(119,ynx),(120,yGq),(171,yse),(179,ysf),(203,yBW),(204,yEt)] []
theorem yQ6:FrOk prog ⟨y1f,160,fun _=>none⟩ y0J:=zky yf yg ⟨ycq,yZl,yWF,ySS,yg5,y1O,y1Q,yxY,yZk,yGM,yGN,ySV,yWG,trivial⟩
abbrev yr:List Par:= [.pt tU .fz,.pt tA (.pr .fz (.pr (.pr .fz .fz) (.pr (.ow (.pr (.ow .fz) (.pr (.ow (.pr .fz .fz)) (.pr .fz (.ow .fz))))) (.pr .fz (.pr .fz (.pr .fz (.pr .fz (.pr .fz (.pr (.ow (.pr .fz .fz)) (.pr .fz (.pr .fz .fz)))))))))))]
abbrev yu:List OT:= []
def yfS (a0:dU) (a1:dA):Option (zaY yu×zak yr) :=bnd (yo a0 14) fun r1 =>let k1:Option (zaY yu×zak yr) :=bnd (ycs r1.2.1 3) fun r9 =>bif r9.1.1 then bif(a1.2.2.2.1==(-1))then bnd (yo r9.2.1 a1.2.1.1) fun r10 =>bnd (ykL a1 r10.1.1) fun r11 =>some ((),(r10.2.1,r11.2.1,())) else some ((),(r9.2.1,a1,())) else some ((),(r9.2.1,a1,()));let k2:Option (zaY yu×zak yr) :=bif(inb a1.2.2.2.1 a1.2.2.1.length)then bif(((nth a1.2.2.1 a1.2.2.2.1 ([],[],false,[])).2).2).1 then bnd (yjs a1) fun r12 =>some ((),(r1.2.1,r12.2.1,())) else some ((),(r1.2.1,a1,())) else none;let k3:Option (zaY yu×zak yr) :=bif(leb 0 a1.2.2.2.1)then k2 else some ((),(r1.2.1,a1,()));let k4:Option (zaY yu×zak yr) :=bif(inb a1.2.2.2.1 a1.2.2.1.length)then bif(!((((nth a1.2.2.1 a1.2.2.2.1 ([],[],false,[])).2).2).1))then bif(ltb a1.2.2.2.2.1 a1.2.1.2)then bnd (ykM a1) fun r13 =>some ((),(r1.2.1,r13.2.1,())) else some ((),(r1.2.1,a1,())) else some ((),(r1.2.1,a1,())) else none;let k5:Option (zaY yu×zak yr) :=bif(leb 0 a1.2.2.2.1)then k4 else some ((),(r1.2.1,a1,()));let k6:Option (zaY yu×zak yr) :=bnd (ycs r1.2.1 3) fun r15 =>bif r15.1.1 then bnd (yo r15.2.1 a1.2.1.1) fun r16 =>bif(inb r16.1.1 a1.2.2.1.length)then bnd (yo r16.2.1 a1.2.1.2) fun r17 =>let r18:=yba r17.1.1;let r19:=ynD ((nth a1.2.2.1 r16.1.1 ([],[],false,[])).1,((nth a1.2.2.1 r16.1.1 ([],[],false,[])).2).1,(((nth a1.2.2.1 r16.1.1 ([],[],false,[])).2).2)) r18;bif(inb r16.1.1 a1.2.2.1.length)then some ((),(r17.2.1,(a1.1,a1.2.1,(a1.2.2.1.set (r16.1.1).toNat r19),a1.2.2.2),())) else none else none else some ((),(r15.2.1,a1,()));let k7:Option (zaY yu×zak yr) :=bif(a1.2.2.2.1==(-1))then k6 else some ((),(r1.2.1,a1,()));let k8:Option (zaY yu×zak yr) :=bif(r1.1.1==12)then let r14:=yg4 a1;some ((),(r1.2.1,r14,())) else k7;let k9:Option (zaY yu×zak yr) :=bif(r1.1.1==10)then k5 else k8;let k10:Option (zaY yu×zak yr) :=bif(r1.1.1==11)then k5 else k8;let k11:Option (zaY yu×zak yr) :=bif(r1.1.1==10)then k9 else k10;let k12:Option (zaY yu×zak yr) :=bif(r1.1.1==9)then k3 else k11;let k13:Option (zaY yu×zak yr) :=bif(r1.1.1==8)then k1 else k12;let k14:Option (zaY yu×zak yr) :=bif(r1.1.1==7)then bnd (yor a1) fun r8 =>some ((),(r1.2.1,r8.2.1,())) else k13;let k15:Option (zaY yu×zak yr) :=bif(r1.1.1==4)then bnd (yo r1.2.1 a1.2.1.2) fun r6 =>bnd (ydk a1 r6.1.1) fun r7 =>some ((),(r6.2.1,r7.2.1,())) else k14;let k16:Option (zaY yu×zak yr) :=bif(r1.1.1==5)then bnd (yo r1.2.1 a1.2.1.2) fun r27 =>bnd (ydk a1 r27.1.1) fun r28 =>some ((),(r27.2.1,r28.2.1,())) else k14;let k17:Option (zaY yu×zak yr) :=bif(r1.1.1==6)then bnd (yo r1.2.1 a1.2.1.2) fun r48 =>bnd (ydk a1 r48.1.1) fun r49 =>some ((),(r48.2.1,r49.2.1,())) else k14;let k18:Option (zaY yu×zak yr) :=bif(r1.1.1==5)then k16 else k17;let k19:Option (zaY yu×zak yr) :=bif(r1.1.1==4)then k15 else k18;bif(r1.1.1==0)then bif(r1.1.1==0)then let r2:=yn a1.2.1;bnd (yo r1.2.1 r2) fun r3 =>bnd (ybw r3.2.1) fun r4 =>bnd (yfD a1 r3.1.1 r4.1.1) fun r5 =>some ((),(r4.2.1,r5.2.1,())) else k19 else bif(r1.1.1==1)then bif(r1.1.1==1)then let r69:=yn a1.2.1;bnd (yo r1.2.1 r69) fun r70 =>bnd (ybw r70.2.1) fun r71 =>bnd (yfD a1 r70.1.1 r71.1.1) fun r72 =>some ((),(r71.2.1,r72.2.1,())) else k19 else bif(r1.1.1==2)then bif(r1.1.1==2)then let r136:=yn a1.2.1;bnd (yo r1.2.1 r136) fun r137 =>bnd (ybw r137.2.1) fun r138 =>bnd (yfD a1 r137.1.1 r138.1.1) fun r139 =>some ((),(r138.2.1,r139.2.1,())) else k19 else bif(r1.1.1==3)then let r203:=yn a1.2.1;bnd (yo r1.2.1 r203) fun r204 =>bnd (ybw r204.2.1) fun r205 =>bnd (yfD a1 r204.1.1 r205.1.1) fun r206 =>some ((),(r205.2.1,r206.2.1,())) else k19
theorem yWi:ConOk prog 163 ⟨yr,yu,fun x=>yfS x.1 x.2.1⟩:=zkG (yQ6) func163 ntmps163.symm fun x=>by kernel_rfl
def yuW:Con:=⟨yr,yu,fun x=>yfS x.1 x.2.1⟩
theorem yIk:ConOk prog 163 yuW:=yWi
def yyD (a:dA) (z:Option (zaY yu×zak yr)):Prop:= ∃(u':dU) (a':dA),z=some ((),(u',a',()))∧ycM u'∧Turned a a'
def y3W (u:dU) (a:dA):Option (zaY yu×zak yr) :=bnd (yo u (yn a.2.1)) fun r3=>bnd (ybw r3.2.1) fun r4=>bnd (yfD a r3.1.1 r4.1.1) fun r5=>some ((),(r4.2.1,r5.2.1,()))
def yZ9 (u:dU) (a:dA):Option (zaY yu×zak yr) :=bnd (yo u a.2.1.2) fun r6=>bnd (ydk a r6.1.1) fun r7=>some ((),(r6.2.1,r7.2.1,()))
def y24 (u:dU) (a:dA):Option (zaY yu×zak yr) :=bnd (ycs u 3) fun r9=>bif r9.1.1 then(bif(a.2.2.2.1==(-1))then(bnd (yo r9.2.1 a.2.1.1) fun r10=>bnd (ykL a r10.1.1) fun r11=>some ((),(r10.2.1,r11.2.1,())))else some ((),(r9.2.1,a,())))else some ((),(r9.2.1,a,()))
def y0a (u:dU) (a:dA):Option (zaY yu×zak yr) :=bif leb 0 a.2.2.2.1 then(bif inb a.2.2.2.1 a.2.2.1.length then(bif(nth a.2.2.1 a.2.2.2.1 yc).2.2.1 then(bnd (yjs a) fun r12=>some ((),(u,r12.2.1,())))else some ((),(u,a,())))else none)else some ((),(u,a,()))
def y25 (u:dU) (a:dA):Option (zaY yu×zak yr) :=bif leb 0 a.2.2.2.1 then(bif inb a.2.2.2.1 a.2.2.1.length then(bif !(nth a.2.2.1 a.2.2.2.1 yc).2.2.1 then(bif ltb a.2.2.2.2.1 a.2.1.2 then(bnd (ykM a) fun r13=>some ((),(u,r13.2.1,())))else some ((),(u,a,())))else some ((),(u,a,())))else none)else some ((),(u,a,()))
def yMG (u:dU) (a:dA):Option (zaY yu×zak yr) :=bif(a.2.2.2.1==(-1))then(bnd (ycs u 3) fun r15=>bif r15.1.1 then(bnd (yo r15.2.1 a.2.1.1) fun r16=>bif inb r16.1.1 a.2.2.1.length then(bnd (yo r16.2.1 a.2.1.2) fun r17 =>bif inb r16.1.1 a.2.2.1.length then some ((),(r17.2.1,ybx a r16.1.1 (spoil (nth a.2.2.1 r16.1.1 yc) (yy r17.1.1)),()))else none)else none)else some ((),(r15.2.1,a,())))else some ((),(u,a,()))
theorem yJj {u:dU} {a:dA} (h:yU a) (hk:yI a) (hu:ycM u):yyD a (y3W u a):=by
 have hg:=yl.1 h.1;have hd:=yyT h.2.2.1 h.1;obtain⟨b,u1,e1,q1,d1⟩:=yda u (yn a.2.1) hu;obtain⟨x,u2,e2,q2,d2⟩:=y55 u1 d1;have hx:isW x=true:=by rw[ybU]at q2; exact q2
 have hbl:0<yn a.2.1:=by
  rw[yyn h.1];exact Int.mul_pos (by omega) (by omega)
 have hb:ye7 a.2.1 b=true:=by
  have:=q1.2.1 hbl;unfold ye7;rw[zk0 q1.1,zk0 (show b≤yn a.2.1-1 by omega)]; rfl
 unfold y3W;rw[e1,zkF,e2,zkF,y1T a b x (by unfold yot; rw[yC1.2 ⟨h,hk⟩,hb]; exact decide_eq_true (show a.2.2.2.2.2.2.2.2.1.length≤1000 by omega)),zkF];exact⟨_,_,rfl,d2,.put b x hb hx⟩
theorem yJi {u:dU} {a:dA} (h:yU a) (hu:ycM u):yyD a (yZ9 u a):=by
 have hd:=yyT h.2.2.1 h.1;obtain⟨s,u1,e1,q1,d1⟩:=yda u a.2.1.2 hu;unfold yZ9;rw[e1,zkF,yGP a s (decide_eq_true (show a.2.2.2.2.2.2.2.2.1.length≤1000 by omega)),zkF];exact⟨_,_,rfl,d1,.flush s⟩
theorem y5O {u:dU} {a:dA} (h:yU a) (hu:ycM u):yyD a (bnd (yor a) fun r8=>some ((),(u,r8.2.1,()))):=by
 have hd:=yyT h.2.2.1 h.1;rw[y1R a (decide_eq_true (show a.2.2.2.2.2.2.2.2.1.length≤1000 by omega)),zkF];exact⟨_,_,rfl,hu,.all⟩
theorem y5a {u:dU} {a:dA} (h:yU a) (hk:yI a) (hu:ycM u):yyD a (y24 u a):=by
 have hg:=yl.1 h.1;have hl:=hk.1.2;obtain⟨r,u1,e1,d1⟩:=y3y u 3 hu;unfold y24;rw[e1,zkF];cases r
 ·exact⟨_,_,rfl,d1,.same⟩
 ·cases h1:(a.2.2.2.1==(-1))
  ·exact⟨_,_,rfl,d1,.same⟩
  ·obtain⟨m,u2,e2,q2,d2⟩:=yda u1 a.2.1.1 d1
   have hm:inb m a.2.2.1.length=true:=zj4.2 ⟨q2.1,by have:=q2.2.1 (by omega); omega⟩;simp only[cond_true];rw[e2,zkF,yWM a m hm,zkF];exact⟨_,_,rfl,d2,.fail m (beq_iff_eq.1 h1) hm⟩
theorem y4w {u:dU} {a:dA} (h:yU a) (hk:yI a) (hu:ycM u):yyD a (y0a u a):=by
 have hl:=hk.1.2;have hc:=h.2.2.2.1;unfold y0a;cases h0:leb 0 a.2.2.2.1
 ·exact⟨_,_,rfl,hu,.same⟩
 ·have hi:inb a.2.2.2.1 a.2.2.1.length=true:=zj4.2 ⟨zj5.1 h0,by omega⟩
  rw[hi];cases hf:(nth a.2.2.1 a.2.2.2.1 yc).2.2.1
  ·exact⟨_,_,rfl,hu,.same⟩
  ·simp only[cond_true]
   rw[ySZ a (by unfold yjw; rw[h.1,hi]; rfl),zkF];exact⟨_,_,rfl,hu,.spare hi hf⟩
theorem y0b {u:dU} {a:dA} (h:yU a) (hk:yI a) (hu:ycM u):yyD a (y25 u a):=by
 have hl:=hk.1.2;have hc:=h.2.2.2.1;unfold y25;cases h0:leb 0 a.2.2.2.1
 ·exact⟨_,_,rfl,hu,.same⟩
 ·have h0':=zj5.1 h0
  have hi:inb a.2.2.2.1 a.2.2.1.length=true:=zj4.2 ⟨h0',by omega⟩;rw[hi];cases hf:(nth a.2.2.1 a.2.2.2.1 yc).2.2.1
  ·cases hb:ltb a.2.2.2.2.1 a.2.1.2
   ·exact⟨_,_,rfl,hu,.same⟩
   ·simp only[cond_true,Bool.not_false]
    rw[yWN a (by unfold ykO; rw[h.1,hi,zj4.2 (show 0≤a.2.2.2.1∧a.2.2.2.1<a.2.1.1.toNat by omega)]; rfl),zkF];exact⟨_,_,rfl,hu,.step hi hf (zj8.1 hb)⟩
  ·exact⟨_,_,rfl,hu,.same⟩
theorem y4x {u:dU} {a:dA} (h:yU a) (hk:yI a) (hu:ycM u):yyD a (yMG u a):=by
 have hg:=yl.1 h.1;have hl:=hk.1.2;unfold yMG;cases hlo:(a.2.2.2.1==(-1))
 ·exact⟨_,_,rfl,hu,.same⟩
 ·obtain⟨r,u1,e1,d1⟩:=y3y u 3 hu
  simp only[cond_true];rw[e1,zkF];cases r
  ·exact⟨_,_,rfl,d1,.same⟩
  ·obtain⟨m,u2,e2,q2,d2⟩:=yda u1 a.2.1.1 d1
   have hm:inb m a.2.2.1.length=true:=zj4.2 ⟨q2.1,by have:=q2.2.1 (by omega); omega⟩;obtain⟨s,u3,e3,q3,d3⟩:=yda u2 a.2.1.2 d2;simp only[cond_true];rw[e2,zkF];simp only[hm,cond_true];rw[e3,zkF];exact⟨_,_,rfl,d3,.spoil m s (beq_iff_eq.1 hlo) hm q3.1 (q3.2.1 (by omega))⟩
theorem y3A (u:dU) (a:dA) (hu:ycM u) (h:yU a) (hk:yI a):yyD a (yfS u a):=by
 obtain⟨r,u1,e1,q1,d1⟩:=yda u 14 hu;have hr:=q1.2.1 (by omega);have h0:=q1.1;unfold yfS;rw[e1,zkF];have hc:(r=0∨r=1∨r=2∨r=3)∨(r=4∨r=5∨r=6)∨r=7∨r=8∨r=9∨(r=10∨r=11)∨r=12∨r=13:=by omega
 rcases hc with(rfl | rfl | rfl | rfl) | (rfl | rfl | rfl) | rfl | rfl | rfl | (rfl | rfl) | rfl | rfl
 ·exact yJj h hk d1
 ·exact yJj h hk d1
 ·exact yJj h hk d1
 ·exact yJj h hk d1
 ·exact yJi h d1
 ·exact yJi h d1
 ·exact yJi h d1
 ·exact y5O h d1
 ·exact y5a h hk d1
 ·exact y4w h hk d1
 ·exact y0b h hk d1
 ·exact y0b h hk d1
 ·refine⟨u1,yq a,?_,d1,.check⟩
  rw[← yJA]; rfl
 ·have:=y4x h hk d1
  unfold yMG at this;simp only[← yeZ]at this;exact this
def yrn:Code:=(f124.body).getD .skip
def yz0:Env:=zku TT [(72,ya4),(115,yGl),(116,yHT),(163,yuW)] []
theorem yQ1:FrOk prog ⟨yz0,24,fun _=>none⟩ yrn:=zky yf yg ⟨ycq,yZf,y1M,yIk,trivial⟩
def yFS:Nat→Option Seg:=fun _=>none
def yc7:Shape:=⟨[(0,false,[.ptr 1000000000 0]),(4,false,[.ptr 0 0]),(5,false,[.ptr 4480 0]),(6,false,[.int .i64])],[(0,[.int .i64,.int .i64,.int .i64,.nil,.int .i64,.int .i64,.int .i64,.int .i64,.int .i64,.nil,.int .i64,.bool,.bool]),(4480,[.int .i64,.int .i64,.int .i64,.at 800000000,.int .i64,.int .i64,.int .i64,.int .i64,.int .i64,.at 800000001,.int .i64,.bool,.bool]),(1000000000,[.fz tY,.int .i64,.int .i64])],[(800000000,tM,(.pr (.ow .fz) (.pr (.ow (.pr .fz .fz)) (.pr .fz (.ow .fz))))),(800000001,tW,(.pr .fz .fz))]⟩
def yhv:Shape:=⟨[(0,false,[.ptr 1000000000 0]),(4,false,[.ptr 0 0]),(5,false,[.ptr 4480 0]),(6,false,[.int .i64])],[(0,[.int .i64,.int .i64,.int .i64,.nil,.int .i64,.int .i64,.int .i64,.int .i64,.int .i64,.nil,.int .i64,.bool,.bool]),(4480,[.int .i64,.int .i64,.int .i64,.at 800000000,.int .i64,.int .i64,.int .i64,.int .i64,.int .i64,.at 800000001,.int .i64,.bool,.bool]),(1000000000,[.fz tY,.int .i64,.int .i64])],[(800000000,tM,(.pr (.ow .fz) (.pr (.ow (.pr .fz .fz)) (.pr .fz (.ow .fz))))),(800000001,tW,(.pr .fz .fz))]⟩
def yhk:Shape:=⟨[(4,false,[.ptr 0 0]),(5,false,[.ptr 4480 0])],[(0,[.int .i64,.int .i64,.int .i64,.nil,.int .i64,.int .i64,.int .i64,.int .i64,.int .i64,.nil,.int .i64,.bool,.bool]),(4480,[.int .i64,.int .i64,.int .i64,.at 800000000,.int .i64,.int .i64,.int .i64,.int .i64,.int .i64,.at 800000001,.int .i64,.bool,.bool]),(1000000000,[.fz tY,.int .i64,.int .i64])],[(800000000,tM,(.pr (.ow .fz) (.pr (.ow (.pr .fz .fz)) (.pr .fz (.ow .fz))))),(800000001,tW,(.pr .fz .fz))]⟩
def ylj:Shape:=⟨[],[],[]⟩
abbrev yqp (v0:Int) (v1 v2:dA) (v3:dU):(yc7).X:=((((),()),((),()),((),()),(v0,()),()),((v1.1,v1.2.1.1,v1.2.1.2,(),v1.2.2.2.1,v1.2.2.2.2.1,v1.2.2.2.2.2.1,v1.2.2.2.2.2.2.1,v1.2.2.2.2.2.2.2.1,(),v1.2.2.2.2.2.2.2.2.2.1,v1.2.2.2.2.2.2.2.2.2.2.1,v1.2.2.2.2.2.2.2.2.2.2.2,()),(v2.1,v2.2.1.1,v2.2.1.2,(),v2.2.2.2.1,v2.2.2.2.2.1,v2.2.2.2.2.2.1,v2.2.2.2.2.2.2.1,v2.2.2.2.2.2.2.2.1,(),v2.2.2.2.2.2.2.2.2.2.1,v2.2.2.2.2.2.2.2.2.2.2.1,v2.2.2.2.2.2.2.2.2.2.2.2,()),(v3.1,v3.2.1,v3.2.2,()),()),(v2.2.2.1,v2.2.2.2.2.2.2.2.2.1,()))
abbrev yOy (v0:Int) (v1 v2:dA) (v3:dU):(yhv).X:=((((),()),((),()),((),()),(v0,()),()),((v1.1,v1.2.1.1,v1.2.1.2,(),v1.2.2.2.1,v1.2.2.2.2.1,v1.2.2.2.2.2.1,v1.2.2.2.2.2.2.1,v1.2.2.2.2.2.2.2.1,(),v1.2.2.2.2.2.2.2.2.2.1,v1.2.2.2.2.2.2.2.2.2.2.1,v1.2.2.2.2.2.2.2.2.2.2.2,()),(v2.1,v2.2.1.1,v2.2.1.2,(),v2.2.2.2.1,v2.2.2.2.2.1,v2.2.2.2.2.2.1,v2.2.2.2.2.2.2.1,v2.2.2.2.2.2.2.2.1,(),v2.2.2.2.2.2.2.2.2.2.1,v2.2.2.2.2.2.2.2.2.2.2.1,v2.2.2.2.2.2.2.2.2.2.2.2,()),(v3.1,v3.2.1,v3.2.2,()),()),(v2.2.2.1,v2.2.2.2.2.2.2.2.2.1,()))
abbrev yOp (v0 v1:dA) (v2:dU):(yhk).X:=((((),()),((),()),()),((v0.1,v0.2.1.1,v0.2.1.2,(),v0.2.2.2.1,v0.2.2.2.2.1,v0.2.2.2.2.2.1,v0.2.2.2.2.2.2.1,v0.2.2.2.2.2.2.2.1,(),v0.2.2.2.2.2.2.2.2.2.1,v0.2.2.2.2.2.2.2.2.2.2.1,v0.2.2.2.2.2.2.2.2.2.2.2,()),(v1.1,v1.2.1.1,v1.2.1.2,(),v1.2.2.2.1,v1.2.2.2.2.1,v1.2.2.2.2.2.1,v1.2.2.2.2.2.2.1,v1.2.2.2.2.2.2.2.1,(),v1.2.2.2.2.2.2.2.2.2.1,v1.2.2.2.2.2.2.2.2.2.2.1,v1.2.2.2.2.2.2.2.2.2.2.2,()),(v2.1,v2.2.1,v2.2.2,()),()),(v1.2.2.1,v1.2.2.2.2.2.2.2.2.1,()))
def yqZ (v0 v1 v2 v3 v4 v5 v6 v7 v8 v9:Int) (v10 v11:Bool) (v12 v13 v14 v15 v16 v17 v18 v19 v20:Int) (v21 v22:Bool) (v23:List Int) (v24 v25:Int) (v26:List dM) (v27:List dW):Option ((yc7).X ⊕ ((yhk).X ⊕ (ylj).X)) :=bif(ltb 0 v0)then bnd (yfS (v23,v24,v25) (v12,(v13,v14),v26,v15,v16,v17,v18,v19,v27,v20,v21,v22)) fun r6 =>some (.inl ((((),()),((),()),((),()),((i64.wrap (v0-1)),()),()),((v1,v2,v3,(),v4,v5,v6,v7,v8,(),v9,v10,v11,()),(r6.2.2.1.1,r6.2.2.1.2.1.1,r6.2.2.1.2.1.2,(),r6.2.2.1.2.2.2.1,r6.2.2.1.2.2.2.2.1,r6.2.2.1.2.2.2.2.2.1,r6.2.2.1.2.2.2.2.2.2.1,r6.2.2.1.2.2.2.2.2.2.2.1,(),r6.2.2.1.2.2.2.2.2.2.2.2.2.1,r6.2.2.1.2.2.2.2.2.2.2.2.2.2.1,r6.2.2.1.2.2.2.2.2.2.2.2.2.2.2,()),(r6.2.1.1,r6.2.1.2.1,r6.2.1.2.2,()),()),(r6.2.2.1.2.2.1,r6.2.2.1.2.2.2.2.2.2.2.2.1,()))) else some (.inr (.inl ((((),()),((),()),()),((v1,v2,v3,(),v4,v5,v6,v7,v8,(),v9,v10,v11,()),(v12,v13,v14,(),v15,v16,v17,v18,v19,(),v20,v21,v22,()),(v23,v24,v25,()),()),(v26,v27,()))))
def yds (x:(yc7).X):=yqZ x.1.2.2.2.1.1 x.2.1.1.1 x.2.1.1.2.1 x.2.1.1.2.2.1 x.2.1.1.2.2.2.2.1 x.2.1.1.2.2.2.2.2.1 x.2.1.1.2.2.2.2.2.2.1 x.2.1.1.2.2.2.2.2.2.2.1 x.2.1.1.2.2.2.2.2.2.2.2.1 x.2.1.1.2.2.2.2.2.2.2.2.2.2.1 x.2.1.1.2.2.2.2.2.2.2.2.2.2.2.1 x.2.1.1.2.2.2.2.2.2.2.2.2.2.2.2.1 x.2.1.2.1.1 x.2.1.2.1.2.1 x.2.1.2.1.2.2.1 x.2.1.2.1.2.2.2.2.1 x.2.1.2.1.2.2.2.2.2.1 x.2.1.2.1.2.2.2.2.2.2.1 x.2.1.2.1.2.2.2.2.2.2.2.1 x.2.1.2.1.2.2.2.2.2.2.2.2.1 x.2.1.2.1.2.2.2.2.2.2.2.2.2.2.1 x.2.1.2.1.2.2.2.2.2.2.2.2.2.2.2.1 x.2.1.2.1.2.2.2.2.2.2.2.2.2.2.2.2.1 x.2.1.2.2.1.1 x.2.1.2.2.1.2.1 x.2.1.2.2.1.2.2.1 x.2.2.1 x.2.2.2.1
def yB7 (x:(yhv).X):(yc7).X:=((((),()),((),()),((),()),(x.1.2.2.2.1.1,()),()),((x.2.1.1.1,x.2.1.1.2.1,x.2.1.1.2.2.1,(),x.2.1.1.2.2.2.2.1,x.2.1.1.2.2.2.2.2.1,x.2.1.1.2.2.2.2.2.2.1,x.2.1.1.2.2.2.2.2.2.2.1,x.2.1.1.2.2.2.2.2.2.2.2.1,(),x.2.1.1.2.2.2.2.2.2.2.2.2.2.1,x.2.1.1.2.2.2.2.2.2.2.2.2.2.2.1,x.2.1.1.2.2.2.2.2.2.2.2.2.2.2.2.1,()),(x.2.1.2.1.1,x.2.1.2.1.2.1,x.2.1.2.1.2.2.1,(),x.2.1.2.1.2.2.2.2.1,x.2.1.2.1.2.2.2.2.2.1,x.2.1.2.1.2.2.2.2.2.2.1,x.2.1.2.1.2.2.2.2.2.2.2.1,x.2.1.2.1.2.2.2.2.2.2.2.2.1,(),x.2.1.2.1.2.2.2.2.2.2.2.2.2.2.1,x.2.1.2.1.2.2.2.2.2.2.2.2.2.2.2.1,x.2.1.2.1.2.2.2.2.2.2.2.2.2.2.2.2.1,()),(x.2.1.2.2.1.1,x.2.1.2.2.1.2.1,x.2.1.2.2.1.2.2.1,()),()),(x.2.2.1,x.2.2.2.1,()))
def yD8:Code:=(zeJ yrn 64 116).getD .skip
theorem yQe:zeJ yrn 64 29=some (.block 0 (.loop yD8)):=by kernel_rfl
theorem yTa (x:(yc7).X):zhu ⟨yz0,24,yFS⟩ 0 yD8 116 yc7 yhk ylj x=yds x:=by kernel_rfl
def yCi (x:(yhv).X):Nat:=18446744073709551616
def yr5 (x:(yhv).X):Option ((yhk).X ⊕ (ylj).X):=zF yds (yCi x) (yB7 x)
def yCH:Seg:=⟨yhv,yhk,ylj,yr5⟩
def yTH:Nat→Option Seg:=fun q=>bif Nat.beq q 29 then some yCH else yFS q
theorem yQ2:FrOk prog ⟨yz0,24,yTH⟩ yrn:=(yQ1).loop (sg:=yCH) yc7 yB7 (by decide) yQe yds yCi (by decide) (fun _=>rfl) (fun x r _ h=>h) yTa
abbrev yAn:List Par:= [.pt tU .fz,.rd tI]
abbrev yAU:List OT:= [⟨false,tA,(.pr .fz (.pr (.pr .fz .fz) (.pr (.ow (.pr (.ow .fz) (.pr (.ow (.pr .fz .fz)) (.pr .fz (.ow .fz))))) (.pr .fz (.pr .fz (.pr .fz (.pr .fz (.pr .fz (.pr (.ow (.pr .fz .fz)) (.pr .fz (.pr .fz .fz)))))))))))⟩]
def yfR (a0:dU) (a1:Int):Option (zaY yAU×zak yAn) :=bnd (yo a0 2) fun r1 =>bnd (ykR r1.2.1) fun r2 =>let r3:=yl4 (i64.wrap (1+r1.1.1)) r2.1.1;bnd (yo r2.2.1 (i64.wrap (a1+1))) fun r4 =>zkr (yr5 ((((),()),((),()),((),()),(r4.1.1,()),()),((0,0,0,(),0,0,0,0,0,(),0,false,false,()),(r3.1,r3.2.1.1,r3.2.1.2,(),r3.2.2.2.1,r3.2.2.2.2.1,r3.2.2.2.2.2.1,r3.2.2.2.2.2.2.1,r3.2.2.2.2.2.2.2.1,(),r3.2.2.2.2.2.2.2.2.2.1,r3.2.2.2.2.2.2.2.2.2.2.1,r3.2.2.2.2.2.2.2.2.2.2.2,()),(r4.2.1.1,r4.2.1.2.1,r4.2.1.2.2,()),()),(r3.2.2.1,r3.2.2.2.2.2.2.2.2.1,()))) (fun y6 =>some (((y6.2.1.2.1.1,(y6.2.1.2.1.2.1,y6.2.1.2.1.2.2.1),y6.2.2.1,y6.2.1.2.1.2.2.2.2.1,y6.2.1.2.1.2.2.2.2.2.1,y6.2.1.2.1.2.2.2.2.2.2.1,y6.2.1.2.1.2.2.2.2.2.2.2.1,y6.2.1.2.1.2.2.2.2.2.2.2.2.1,y6.2.2.2.1,y6.2.1.2.1.2.2.2.2.2.2.2.2.2.2.1,y6.2.1.2.1.2.2.2.2.2.2.2.2.2.2.2.1,y6.2.1.2.1.2.2.2.2.2.2.2.2.2.2.2.2.1),()),((y6.2.1.2.2.1.1,y6.2.1.2.2.1.2.1,y6.2.1.2.2.1.2.2.1),()))) (fun y6 =>none)
theorem yWf:ConOk prog 124 ⟨yAn,yAU,fun x=>yfR x.1 x.2.1⟩:=zkG (yQ2) func124 ntmps124.symm fun x=>by kernel_rfl
def yuV:Con:=⟨yAn,yAU,fun x=>yfR x.1 x.2.1⟩
theorem yIj:ConOk prog 124 yuV:=yWf
theorem yZQ {P:Int→dA→Prop} {K:Int} (hP: ∀k a,P k a→yU a∧yI a) (hT: ∀k a b,P k a→Turned a b→k+16≤K→P (k+16) b): ∀(n:Nat) (k:Int) (a:dA) (u:dU) (fuel:Nat),n<fuel→n≤1000→ycM u→P k a→k+16*n≤K →
  ∃(a':dA) (u':dU),zF yds fuel (yqp n yaJ a u)=some (.inl (yOp yaJ a' u'))∧ycM u'∧P (k+16*n) a'
 | 0,k,a,u,fuel+1,_,_,hu,h,_=>⟨a,u,by simp only[zF,yds,yqp,yqZ]; rfl,hu,by rw[show k+16*((0:Nat):Int)=k by omega]; exact h⟩
 | n+1,k,a,u,fuel+1,hf,hn,hu,h,hk=>by
  obtain⟨hc,hkp⟩:=hP k a h;obtain⟨u1,a1,e1,d1,h1⟩:=y3A u a hu hc hkp;obtain⟨a',u',e2,d2,h2⟩:=yZQ hP hT n (k+16) a1 u1 fuel (by omega) (by omega) d1 (hT k a a1 h h1 (by omega)) (by omega);refine⟨a',u',?_,d2,by rw[show k+16*((n+1:Nat):Int)=k+16+16*(n:Int)by omega]; exact h2⟩;rw[← e2,zF];simp only[yds,yqp,yqZ,zkw (show(0:Int)<((n+1:Nat):Int)by omega),cond_true,zkV,e1,zkF,show((n+1:Nat):Int)-1=(n:Int)by omega,wq ((n:Int)) (by omega) (by omega)]
theorem yUm {P:Int→dA→Prop} {K:Int} (hP: ∀k a,P k a→yU a∧yI a) (hT: ∀k a b,P k a→Turned a b→k+16≤K→P (k+16) b) (h0P: ∀id g,yd g=true→1≤id→id≤60000→P 0 (yeG id g))
  (u:dU) (most:Int) (h:ycM u) (h0:0≤most) (h1:most≤1000) (hm:16*most≤K): ∃(a:dA) (u':dU) (k:Int),yfR u most=some ((a,()),(u',()))∧P k a∧k≤16*most∧ycM u':=by
 obtain⟨r1,u1,e1,q1,d1⟩:=yda u 2 h;obtain⟨g,u2,e2,q2,d2⟩:=y5s u1 d1;obtain⟨r3,u3,e3,q3,d3⟩:=yda u2 (most+1) d2;have:=q1.1; have:=q1.2.1 (by omega); have:=q3.1; have:=q3.2.1 (by omega);have hn:=h0P (1+r1) g q2 (by omega) (by omega);obtain⟨a',u',e4,d4,h4⟩:=yZQ hP hT r3.toNat 0 (yeG (1+r1) g) u3 18446744073709551616 (by omega) (by omega) d3 hn (by omega);rw[show((r3.toNat:Nat):Int)=r3 by omega]at e4;unfold yfR;simp only[e1,e2,zkF,wq (most+1) (by omega) (by omega),e3,wq (1+r1) (by omega) (by omega),yl4];refine⟨a',u',_,?_,h4,by omega,d4⟩;exact(congrArg (fun z=>zkr z _ _) (show yr5 (yOy r3 yaJ (yeG (1+r1) g) u3)=_ from e4)).trans rfl
def yXi:Code:=(f52.body).getD .skip
def yXK:Env:=zku TT [(69,yxM),(71,yuU),(124,yuV)] []
theorem yN1:FrOk prog ⟨yXK,11,fun _=>none⟩ yXi:=zky yf yg ⟨yJw,yIi,yIj,trivial⟩
abbrev yxa:List Par:= [.kp tYs .fz]
abbrev yxw:List OT:= [⟨false,tA,(.pr .fz (.pr (.pr .fz .fz) (.pr (.ow (.pr (.ow .fz) (.pr (.ow (.pr .fz .fz)) (.pr .fz (.ow .fz))))) (.pr .fz (.pr .fz (.pr .fz (.pr .fz (.pr .fz (.pr (.ow (.pr .fz .fz)) (.pr .fz (.pr .fz .fz)))))))))))⟩]
def yhQ (a0:List Int):Option (zaY yxw×zak yxa) :=let r1:=yhI a0;let r2:=ybb a0 24;bnd (yfR r1 (i64.wrap (6+r2))) fun r3 =>some ((r3.1.1,()),())
theorem ySq:ConOk prog 52 ⟨yxa,yxw,fun x=>yhQ x.1⟩:=zkG (yN1) func52 ntmps52.symm fun x=>by kernel_rfl
def yEn:Con:=⟨yxa,yxw,fun x=>yhQ x.1⟩
theorem yWA:ConOk prog 52 yEn:=ySq
theorem y3g (a0:List Int) (hb:a0.length≤140737488355328): ∃(a:dA) (V:Int→Int→Int),yhQ a0=some ((a,()),())∧Wk 480 a∧Lv 480 V a:=by
 obtain⟨h1,h2⟩:=y3z a0 24 (by omega) hb
 obtain⟨a,u',k,e,⟨q1,V,q2⟩,hk,d⟩:=yUm (P:=fun k a=>Wk k a∧ ∃V,Lv k V a) (K:=480) (fun k a h=>⟨h.1.1,h.1.2.1⟩)
  (fun k a b h ht hk=>by
   obtain⟨hw,V,hi⟩:=h;have hw':=y0d hw ht (by omega)
   exact⟨ydv hw' (by omega),(yLB hi ht (by omega)).1 hw'.2.2.1.1⟩) (fun id g g1 g2 g3=>⟨y29 g1 g2 g3,_,y4X g1 g2 g3⟩) _ (6+ybb a0 24) (y4L a0 hb) (by omega) (by omega) (by omega)
 refine⟨a,V,?_,ydv q1 (by omega),ytg q2 (by omega)⟩;unfold yhQ;simp only[wq (6+ybb a0 24) (by omega) (by omega),e,zkF]
def yo3:Code:=(f79.body).getD .skip
def yw1:Env:=zku TT [(72,ya4),(80,ypr)] []
theorem yOj:FrOk prog ⟨yw1,19,fun _=>none⟩ yo3:=zky yf yg ⟨ycq,yA9,trivial⟩
def yDk:Nat→Option Seg:=fun _=>none
def ycm:Shape:=⟨[(0,false,[.ptr 1000000000 0]),(3,false,[.at 800000000]),(4,false,[.int .i64])],[(1000000000,[.fz tY,.int .i64,.int .i64])],[(800000000,tI,.fz)]⟩
def ygA:Shape:=⟨[(0,false,[.ptr 1000000000 0]),(3,false,[.at 800000000]),(4,false,[.ci .i64 0])],[(1000000000,[.fz tY,.int .i64,.int .i64])],[(800000000,tI,.fz)]⟩
def ygm:Shape:=⟨[(3,false,[.at 800000000])],[(1000000000,[.fz tY,.int .i64,.int .i64])],[(800000000,tI,.fz)]⟩
def yjY:Shape:=⟨[],[],[]⟩
abbrev yoo (v0:Int) (v1:dU) (v2:List Int):(ycm).X:=((((),()),((),()),(v0,()),()),((v1.1,v1.2.1,v1.2.2,()),()),(v2,()))
abbrev yLZ (v0:dU) (v1:List Int):(ygA).X:=((((),()),((),()),((),()),()),((v0.1,v0.2.1,v0.2.2,()),()),(v1,()))
abbrev yLL (v0:dU) (v1:List Int):(ygm).X:=((((),()),()),((v0.1,v0.2.1,v0.2.2,()),()),(v1,()))
def yoP (v0:Int) (v1:List Int) (v2 v3:Int) (v4:List Int):Option ((ycm).X ⊕ ((ygm).X ⊕ (yjY).X)) :=bif(ltb v0 5)then bnd (yo (v1,v2,v3) 4096) fun r3 =>bnd (yeY r3.2.1 ([0,1,2,3,5,7,1048575,r3.1.1]:List Int)) fun r4 =>bif(zkj v4.length ([r4.1.1]:List Int).length 8)then some (.inl ((((),()),((),()),((i64.wrap (v0+1)),()),()),((r4.2.1.1,r4.2.1.2.1,r4.2.1.2.2,()),()),((v4++([r4.1.1]:List Int)),()))) else none else some (.inr (.inl ((((),()),()),((v1,v2,v3,()),()),(v4,()))))
def ycJ (x:(ycm).X):=yoP x.1.2.2.1.1 x.2.1.1.1 x.2.1.1.2.1 x.2.1.1.2.2.1 x.2.2.1
def yy9 (x:(ygA).X):(ycm).X:=((((),()),((),()),(0,()),()),((x.2.1.1.1,x.2.1.1.2.1,x.2.1.1.2.2.1,()),()),(x.2.2.1,()))
def yBF:Code:=(zeJ yo3 64 116).getD .skip
theorem yNx:zeJ yo3 64 29=some (.block 0 (.loop yBF)):=by kernel_rfl
theorem yPs (x:(ycm).X):zhu ⟨yw1,19,yDk⟩ 0 yBF 116 ycm ygm yjY x=ycJ x:=by kernel_rfl
def yzq (x:(ygA).X):Nat:=18446744073709551616
def yp5 (x:(ygA).X):Option ((ygm).X ⊕ (yjY).X):=zF ycJ (yzq x) (yy9 x)
def yzU:Seg:=⟨ygA,ygm,yjY,yp5⟩
def yP1:Nat→Option Seg:=fun q=>bif Nat.beq q 29 then some yzU else yDk q
theorem yOk:FrOk prog ⟨yw1,19,yP1⟩ yo3:=(yOj).loop (sg:=yzU) ycm yy9 (by decide) yNx ycJ yzq (by decide) (fun _=>rfl) (fun x r _ h=>h) yPs
abbrev yxf:List Par:= [.pt tU .fz]
abbrev yxE:List OT:= [⟨false,tL,(.ow .fz)⟩]
def yhR (a0:dU):Option (zaY yxE×zak yxf) :=zkr (yp5 ((((),()),((),()),((),()),()),((a0.1,a0.2.1,a0.2.2,()),()),(([]:List Int),()))) (fun y4 =>some ((y4.2.2.1,()),((y4.2.1.1.1,y4.2.1.1.2.1,y4.2.1.1.2.2.1),()))) (fun y4 =>none)
theorem ySE:ConOk prog 79 ⟨yxf,yxE,fun x=>yhR x.1⟩:=zkG (yOk) func79 ntmps79.symm fun x=>by kernel_rfl
def yEw:Con:=⟨yxf,yxE,fun x=>yhR x.1⟩
theorem yWJ:ConOk prog 79 yEw:=ySE
theorem yPw: ∀(n:Nat) (u:dU) (l:List Int) (fuel:Nat),n≤5→n<fuel→ycM u→n+l.length≤1000 →
  ∃(u':dU) (l':List Int),zF ycJ fuel (yoo (5-(n:Int)) u l)=some (.inl (yLL u' l'))∧ycM u'∧l'.length=n+l.length
 | 0,u,l,fuel+1,_,_,hu,_=>⟨u,l,by simp only[zF,ycJ,yoo,yoP]; rfl,hu,by omega⟩
 | n+1,u,l,fuel+1,hn,hf,hu,hl=>by
  obtain⟨x,u1,e1,_,d1⟩:=yda u 4096 hu;obtain⟨y,u2,e2,_,d2⟩:=y2v u1 [0,1,2,3,5,7,1048575,x] d1 (by simp);obtain⟨u',l',e3,d3,h3⟩:=yPw n u2 (l++ [y]) fuel (by omega) (by omega) d2 (by rw[List.length_append]; simp only[List.length_cons,List.length_nil]; omega);refine⟨u',l',?_,d3,by rw[h3,List.length_append]; simp only[List.length_cons,List.length_nil]; omega⟩;rw[← e3,zF]
  simp only[ycJ,yoo,yoP,zkw (show(5-((n+1:Nat):Int))<5 by omega),cond_true,zkV,e1,e2,zkF,wq ((5-((n+1:Nat):Int))+1) (by omega) (by omega),show(5-((n+1:Nat):Int))+1=5-(n:Int)by omega,wq (5-(n:Int)) (by omega) (by omega),
   zkD.2 (show(l.length+ [y].length)*8≤140737488355328 by simp only[List.length_cons,List.length_nil]; omega)]
theorem y4a (u:dU) (h:ycM u): ∃(l:List Int) (u':dU),yhR u=some ((l,()),(u',()))∧l.length=5∧ycM u':=by
 obtain⟨u',l',e,d,hl⟩:=yPw 5 u [] 18446744073709551616 (by omega) (by omega) h (by simp);unfold yhR;refine⟨l',u',?_,by rw[hl]; rfl,d⟩;exact(congrArg (fun z=>zkr z _ _) (show yp5 (yLZ u [])=_ from e)).trans rfl
def ymW:Code:=(f93.body).getD .skip
def ytH:Env:=zku TT [(72,ya4),(80,ypr),(124,yuV),(163,yuW)] []
theorem yLu:FrOk prog ⟨ytH,29,fun _=>none⟩ ymW:=zky yf yg ⟨ycq,yA9,yIj,yIk,trivial⟩
def yBp:Nat→Option Seg:=fun _=>none
def ybO:Shape:=⟨[(0,false,[.ptr 1000000000 0]),(4,false,[.ptr 0 0]),(5,false,[.ptr 4288 0]),(6,false,[.int .i64])],[(0,[.int .i64,.int .i64,.int .i64,.nil,.int .i64,.int .i64,.int .i64,.int .i64,.int .i64,.nil,.int .i64,.bool,.bool]),(4288,[.int .i64,.int .i64,.int .i64,.at 800000000,.int .i64,.int .i64,.int .i64,.int .i64,.int .i64,.at 800000001,.int .i64,.bool,.bool]),(1000000000,[.fz tY,.int .i64,.int .i64])],[(800000000,tM,(.pr (.ow .fz) (.pr (.ow (.pr .fz .fz)) (.pr .fz (.ow .fz))))),(800000001,tW,(.pr .fz .fz))]⟩
def yfs:Shape:=⟨[(0,false,[.ptr 1000000000 0]),(4,false,[.ptr 0 0]),(5,false,[.ptr 4288 0]),(6,false,[.int .i64])],[(0,[.int .i64,.int .i64,.int .i64,.nil,.int .i64,.int .i64,.int .i64,.int .i64,.int .i64,.nil,.int .i64,.bool,.bool]),(4288,[.int .i64,.int .i64,.int .i64,.at 800000000,.int .i64,.int .i64,.int .i64,.int .i64,.int .i64,.at 800000001,.int .i64,.bool,.bool]),(1000000000,[.fz tY,.int .i64,.int .i64])],[(800000000,tM,(.pr (.ow .fz) (.pr (.ow (.pr .fz .fz)) (.pr .fz (.ow .fz))))),(800000001,tW,(.pr .fz .fz))]⟩
def yfj:Shape:=⟨[(4,false,[.ptr 0 0]),(5,false,[.ptr 4288 0])],[(0,[.int .i64,.int .i64,.int .i64,.nil,.int .i64,.int .i64,.int .i64,.int .i64,.int .i64,.nil,.int .i64,.bool,.bool]),(4288,[.int .i64,.int .i64,.int .i64,.at 800000000,.int .i64,.int .i64,.int .i64,.int .i64,.int .i64,.at 800000001,.int .i64,.bool,.bool]),(1000000000,[.fz tY,.int .i64,.int .i64])],[(800000000,tM,(.pr (.ow .fz) (.pr (.ow (.pr .fz .fz)) (.pr .fz (.ow .fz))))),(800000001,tW,(.pr .fz .fz))]⟩
def yi6:Shape:=⟨[],[],[]⟩
abbrev yct (v0:Int) (v1 v2:dA) (v3:dU):(ybO).X:=((((),()),((),()),((),()),(v0,()),()),((v1.1,v1.2.1.1,v1.2.1.2,(),v1.2.2.2.1,v1.2.2.2.2.1,v1.2.2.2.2.2.1,v1.2.2.2.2.2.2.1,v1.2.2.2.2.2.2.2.1,(),v1.2.2.2.2.2.2.2.2.2.1,v1.2.2.2.2.2.2.2.2.2.2.1,v1.2.2.2.2.2.2.2.2.2.2.2,()),(v2.1,v2.2.1.1,v2.2.1.2,(),v2.2.2.2.1,v2.2.2.2.2.1,v2.2.2.2.2.2.1,v2.2.2.2.2.2.2.1,v2.2.2.2.2.2.2.2.1,(),v2.2.2.2.2.2.2.2.2.2.1,v2.2.2.2.2.2.2.2.2.2.2.1,v2.2.2.2.2.2.2.2.2.2.2.2,()),(v3.1,v3.2.1,v3.2.2,()),()),(v2.2.2.1,v2.2.2.2.2.2.2.2.2.1,()))
abbrev yJ7 (v0:Int) (v1 v2:dA) (v3:dU):(yfs).X:=((((),()),((),()),((),()),(v0,()),()),((v1.1,v1.2.1.1,v1.2.1.2,(),v1.2.2.2.1,v1.2.2.2.2.1,v1.2.2.2.2.2.1,v1.2.2.2.2.2.2.1,v1.2.2.2.2.2.2.2.1,(),v1.2.2.2.2.2.2.2.2.2.1,v1.2.2.2.2.2.2.2.2.2.2.1,v1.2.2.2.2.2.2.2.2.2.2.2,()),(v2.1,v2.2.1.1,v2.2.1.2,(),v2.2.2.2.1,v2.2.2.2.2.1,v2.2.2.2.2.2.1,v2.2.2.2.2.2.2.1,v2.2.2.2.2.2.2.2.1,(),v2.2.2.2.2.2.2.2.2.2.1,v2.2.2.2.2.2.2.2.2.2.2.1,v2.2.2.2.2.2.2.2.2.2.2.2,()),(v3.1,v3.2.1,v3.2.2,()),()),(v2.2.2.1,v2.2.2.2.2.2.2.2.2.1,()))
abbrev yJY (v0 v1:dA) (v2:dU):(yfj).X:=((((),()),((),()),()),((v0.1,v0.2.1.1,v0.2.1.2,(),v0.2.2.2.1,v0.2.2.2.2.1,v0.2.2.2.2.2.1,v0.2.2.2.2.2.2.1,v0.2.2.2.2.2.2.2.1,(),v0.2.2.2.2.2.2.2.2.2.1,v0.2.2.2.2.2.2.2.2.2.2.1,v0.2.2.2.2.2.2.2.2.2.2.2,()),(v1.1,v1.2.1.1,v1.2.1.2,(),v1.2.2.2.1,v1.2.2.2.2.1,v1.2.2.2.2.2.1,v1.2.2.2.2.2.2.1,v1.2.2.2.2.2.2.2.1,(),v1.2.2.2.2.2.2.2.2.2.1,v1.2.2.2.2.2.2.2.2.2.2.1,v1.2.2.2.2.2.2.2.2.2.2.2,()),(v2.1,v2.2.1,v2.2.2,()),()),(v1.2.2.1,v1.2.2.2.2.2.2.2.2.1,()))
def yeH (v0 v1 v2 v3 v4 v5 v6 v7 v8 v9:Int) (v10 v11:Bool) (v12 v13 v14 v15 v16 v17 v18 v19 v20:Int) (v21 v22:Bool) (v23:List Int) (v24 v25:Int) (v26:List dM) (v27:List dW):Option ((ybO).X ⊕ ((yfj).X ⊕ (yi6).X)) :=bif(ltb 0 v0)then bif(!v21)then bnd (yfS (v23,v24,v25) (v12,(v13,v14),v26,v15,v16,v17,v18,v19,v27,v20,v21,v22)) fun r5 =>some (.inl ((((),()),((),()),((),()),((i64.wrap (v0-1)),()),()),((v1,v2,v3,(),v4,v5,v6,v7,v8,(),v9,v10,v11,()),(r5.2.2.1.1,r5.2.2.1.2.1.1,r5.2.2.1.2.1.2,(),r5.2.2.1.2.2.2.1,r5.2.2.1.2.2.2.2.1,r5.2.2.1.2.2.2.2.2.1,r5.2.2.1.2.2.2.2.2.2.1,r5.2.2.1.2.2.2.2.2.2.2.1,(),r5.2.2.1.2.2.2.2.2.2.2.2.2.1,r5.2.2.1.2.2.2.2.2.2.2.2.2.2.1,r5.2.2.1.2.2.2.2.2.2.2.2.2.2.2,()),(r5.2.1.1,r5.2.1.2.1,r5.2.1.2.2,()),()),(r5.2.2.1.2.2.1,r5.2.2.1.2.2.2.2.2.2.2.2.1,()))) else some (.inr (.inl ((((),()),((),()),()),((v1,v2,v3,(),v4,v5,v6,v7,v8,(),v9,v10,v11,()),(v12,v13,v14,(),v15,v16,v17,v18,v19,(),v20,v21,v22,()),(v23,v24,v25,()),()),(v26,v27,())))) else some (.inr (.inl ((((),()),((),()),()),((v1,v2,v3,(),v4,v5,v6,v7,v8,(),v9,v10,v11,()),(v12,v13,v14,(),v15,v16,v17,v18,v19,(),v20,v21,v22,()),(v23,v24,v25,()),()),(v26,v27,()))))
def yar (x:(ybO).X):=yeH x.1.2.2.2.1.1 x.2.1.1.1 x.2.1.1.2.1 x.2.1.1.2.2.1 x.2.1.1.2.2.2.2.1 x.2.1.1.2.2.2.2.2.1 x.2.1.1.2.2.2.2.2.2.1 x.2.1.1.2.2.2.2.2.2.2.1 x.2.1.1.2.2.2.2.2.2.2.2.1 x.2.1.1.2.2.2.2.2.2.2.2.2.2.1 x.2.1.1.2.2.2.2.2.2.2.2.2.2.2.1 x.2.1.1.2.2.2.2.2.2.2.2.2.2.2.2.1 x.2.1.2.1.1 x.2.1.2.1.2.1 x.2.1.2.1.2.2.1 x.2.1.2.1.2.2.2.2.1 x.2.1.2.1.2.2.2.2.2.1 x.2.1.2.1.2.2.2.2.2.2.1 x.2.1.2.1.2.2.2.2.2.2.2.1 x.2.1.2.1.2.2.2.2.2.2.2.2.1 x.2.1.2.1.2.2.2.2.2.2.2.2.2.2.1 x.2.1.2.1.2.2.2.2.2.2.2.2.2.2.2.1 x.2.1.2.1.2.2.2.2.2.2.2.2.2.2.2.2.1 x.2.1.2.2.1.1 x.2.1.2.2.1.2.1 x.2.1.2.2.1.2.2.1 x.2.2.1 x.2.2.2.1
def ywl (x:(yfs).X):(ybO).X:=((((),()),((),()),((),()),(x.1.2.2.2.1.1,()),()),((x.2.1.1.1,x.2.1.1.2.1,x.2.1.1.2.2.1,(),x.2.1.1.2.2.2.2.1,x.2.1.1.2.2.2.2.2.1,x.2.1.1.2.2.2.2.2.2.1,x.2.1.1.2.2.2.2.2.2.2.1,x.2.1.1.2.2.2.2.2.2.2.2.1,(),x.2.1.1.2.2.2.2.2.2.2.2.2.2.1,x.2.1.1.2.2.2.2.2.2.2.2.2.2.2.1,x.2.1.1.2.2.2.2.2.2.2.2.2.2.2.2.1,()),(x.2.1.2.1.1,x.2.1.2.1.2.1,x.2.1.2.1.2.2.1,(),x.2.1.2.1.2.2.2.2.1,x.2.1.2.1.2.2.2.2.2.1,x.2.1.2.1.2.2.2.2.2.2.1,x.2.1.2.1.2.2.2.2.2.2.2.1,x.2.1.2.1.2.2.2.2.2.2.2.2.1,(),x.2.1.2.1.2.2.2.2.2.2.2.2.2.2.1,x.2.1.2.1.2.2.2.2.2.2.2.2.2.2.2.1,x.2.1.2.1.2.2.2.2.2.2.2.2.2.2.2.2.1,()),(x.2.1.2.2.1.1,x.2.1.2.2.1.2.1,x.2.1.2.2.1.2.2.1,()),()),(x.2.2.1,x.2.2.2.1,()))
def yyN:Code:=(zeJ ymW 64 244).getD .skip
theorem yKL:zeJ ymW 64 61=some (.block 0 (.loop yyN)):=by kernel_rfl
theorem yMA (x:(ybO).X):zhu ⟨ytH,29,yBp⟩ 0 yyN 244 ybO yfj yi6 x=yar x:=by kernel_rfl
def ywu (x:(yfs).X):Nat:=18446744073709551616
def ynS (x:(yfs).X):Option ((yfj).X ⊕ (yi6).X):=zF yar (ywu x) (ywl x)
def ywK:Seg:=⟨yfs,yfj,yi6,ynS⟩
def yNd:Nat→Option Seg:=fun q=>bif Nat.beq q 61 then some ywK else yBp q
theorem yLv:FrOk prog ⟨ytH,29,yNd⟩ ymW:=(yLu).loop (sg:=ywK) ybO ywl (by decide) yKL yar ywu (by decide) (fun _=>rfl) (fun x r _ h=>h) yMA
abbrev yuc:List Par:= [.pt tU .fz,.rd tI]
abbrev yuD:List OT:= [⟨false,tA,(.pr .fz (.pr (.pr .fz .fz) (.pr (.ow (.pr (.ow .fz) (.pr (.ow (.pr .fz .fz)) (.pr .fz (.ow .fz))))) (.pr .fz (.pr .fz (.pr .fz (.pr .fz (.pr .fz (.pr (.ow (.pr .fz .fz)) (.pr .fz (.pr .fz .fz)))))))))))⟩]
def ygP (a0:dU) (a1:Int):Option (zaY yuD×zak yuc) :=bnd (yfR a0 a1) fun r1 =>bnd (yeY r1.2.1 ([(-1),0,1,2,3,4,6,8,11,15,20]:List Int)) fun r2 =>bnd (yo r2.2.1 3) fun r3 =>zkr (ynS ((((),()),((),()),((),()),((i64.wrap (1+r3.1.1)),()),()),((0,0,0,(),0,0,0,0,0,(),0,false,false,()),(r1.1.1.1,r1.1.1.2.1.1,r1.1.1.2.1.2,(),r1.1.1.2.2.2.1,r1.1.1.2.2.2.2.1,r1.1.1.2.2.2.2.2.1,r1.1.1.2.2.2.2.2.2.1,r1.1.1.2.2.2.2.2.2.2.1,(),r2.1.1,r1.1.1.2.2.2.2.2.2.2.2.2.2.1,r1.1.1.2.2.2.2.2.2.2.2.2.2.2,()),(r3.2.1.1,r3.2.1.2.1,r3.2.1.2.2,()),()),(r1.1.1.2.2.1,r1.1.1.2.2.2.2.2.2.2.2.1,()))) (fun y5 =>some (((y5.2.1.2.1.1,(y5.2.1.2.1.2.1,y5.2.1.2.1.2.2.1),y5.2.2.1,y5.2.1.2.1.2.2.2.2.1,y5.2.1.2.1.2.2.2.2.2.1,y5.2.1.2.1.2.2.2.2.2.2.1,y5.2.1.2.1.2.2.2.2.2.2.2.1,y5.2.1.2.1.2.2.2.2.2.2.2.2.1,y5.2.2.2.1,y5.2.1.2.1.2.2.2.2.2.2.2.2.2.2.1,y5.2.1.2.1.2.2.2.2.2.2.2.2.2.2.2.1,y5.2.1.2.1.2.2.2.2.2.2.2.2.2.2.2.2.1),()),((y5.2.1.2.2.1.1,y5.2.1.2.2.1.2.1,y5.2.1.2.2.1.2.2.1),()))) (fun y5 =>none)
theorem yPa:ConOk prog 93 ⟨yuc,yuD,fun x=>ygP x.1 x.2.1⟩:=zkG (yLv) func93 ntmps93.symm fun x=>by kernel_rfl
def yBY:Con:=⟨yuc,yuD,fun x=>ygP x.1 x.2.1⟩
theorem ySX:ConOk prog 93 yBY:=yPa
def yTt:Code:=(f53.body).getD .skip
def yTW:Env:=zku TT [(69,yxM),(71,yuU),(72,ya4),(79,yEw),(93,yBY)] []
theorem yLi:FrOk prog ⟨yTW,21,fun _=>none⟩ yTt:=zky yf yg ⟨yJw,yIi,ycq,yWJ,ySX,trivial⟩
abbrev yt4:List Par:= [.kp tYs .fz]
abbrev yur:List OT:= [⟨false,tA,(.pr .fz (.pr (.pr .fz .fz) (.pr (.ow (.pr (.ow .fz) (.pr (.ow (.pr .fz .fz)) (.pr .fz (.ow .fz))))) (.pr .fz (.pr .fz (.pr .fz (.pr .fz (.pr .fz (.pr (.ow (.pr .fz .fz)) (.pr .fz (.pr .fz .fz)))))))))))⟩,⟨false,tL,(.ow .fz)⟩,⟨false,tI,.fz⟩]
def ygO (a0:List Int):Option (zaY yur×zak yt4) :=let r1:=yhI a0;bnd (yhR r1) fun r2 =>bnd (yo r2.2.1 20) fun r3 =>let r4:=ybb a0 24;bnd (ygP r3.2.1 (i64.wrap (6+r4))) fun r5 =>some ((r5.1.1,r2.1.1,r3.1.1,()),())
theorem yO0:ConOk prog 53 ⟨yt4,yur,fun x=>ygO x.1⟩:=zkG (yLi) func53 ntmps53.symm fun x=>by kernel_rfl
def yBR:Con:=⟨yt4,yur,fun x=>ygO x.1⟩
theorem ySQ:ConOk prog 53 yBR:=yO0
theorem y3J {K x:Int} {V:Int→Int→Int} {a:dA} (h:Lv K V a) (hx: -1≤x∧x≤1000):Lv K V (yh2 a x false):=by
 obtain⟨⟨x1,x2,x3,x4,x5,x6,x7,x8,x9⟩,r,n⟩:=h;exact⟨⟨x1,⟨x2.1,hx⟩,rfl,x4,x5,x6,x7,x8,x9⟩,r,⟨n.n,n.z⟩⟩
def Fin (K:Int) (a:dA):Prop:=yI a∧Can K (fun _ _=>True) a
theorem y6r {K:Int} {V:Int→Int→Int} {a:dA} (h:Lv K V a):Fin K a:=⟨h.x.xk,yQh (y6q h) (Int.le_refl _) (fun _ _ _=>trivial)⟩
theorem yQl {K J:Int} {a:dA} (h:Fin K a) (hj:K≤J):Fin J a:=⟨h.1,yQh h.2 hj (fun _ _ h=>h)⟩
theorem yPv: ∀(n:Nat) (k:Int) (V:Int→Int→Int) (a:dA) (u:dU) (fuel:Nat),n<fuel→n≤1000→ycM u→Lv k V a→k+16*n≤60000 →
  ∃(a':dA) (u':dU),zF yar fuel (yct n yaJ a u)=some (.inl (yJY yaJ a' u'))∧Fin (k+16*n) a'
 | 0,k,V,a,u,fuel+1,_,_,hu,h,_=>⟨a,u,by simp only[zF,yar,yct,yeH]; rfl,yQl (y6r h) (by omega)⟩
 | n+1,k,V,a,u,fuel+1,hf,hn,hu,h,hk=>by
  obtain⟨u1,a1,e1,d1,h1⟩:=y3A u a hu h.x.xc h.x.xk;have ht:=yLB h h1 (by omega);rcases Bool.eq_false_or_eq_true (ya a1)with hd | hd
  ·refine⟨a1,u1,?_,y3n h.x.xk h.x.xc.1 h1,yQh (y4F (ht.2 hd)) (by omega) (fun _ _ _=>trivial)⟩
   rw[zF];simp only[yar,yct,yeH,zkw (show(0:Int)<((n+1:Nat):Int)by omega),cond_true,zkV,show((n+1:Nat):Int)-1=(n:Int)by omega,wq ((n:Int)) (by omega) (by omega)];rw[yQj (show a.2.2.2.2.2.2.2.2.2.2.1=false from h.x.xu),e1,zkF];simp only[zkV];obtain⟨fuel,rfl⟩: ∃m,fuel=m+1:=⟨fuel-1,by omega⟩;show zF yar (fuel+1) (yct n yaJ a1 u1)=_;rw[zF];simp only[yar,yct,yeH,zkV];cases ltb 0 ((n:Nat):Int)
   ·rfl
   ·rw[cond_true,y4H (show a1.2.2.2.2.2.2.2.2.2.2.1=true from hd)]
  ·obtain⟨V1,h2⟩:=ht.1 hd
   obtain⟨a',u',e2,g2⟩:=yPv n (k+16) V1 a1 u1 fuel (by omega) (by omega) d1 h2 (by omega);refine⟨a',u',?_,yQl g2 (by omega)⟩;rw[← e2,zF];simp only[yar,yct,yeH,zkw (show(0:Int)<((n+1:Nat):Int)by omega),cond_true,zkV,show((n+1:Nat):Int)-1=(n:Int)by omega,wq ((n:Int)) (by omega) (by omega)];rw[yQj (show a.2.2.2.2.2.2.2.2.2.2.1=false from h.x.xu),e1,zkF]
theorem y56 (u:dU) (most:Int) (h:ycM u) (h0:0≤most) (h1:most≤30): ∃(a:dA) (u':dU),ygP u most=some ((a,()),(u',()))∧Fin 600 a:=by
 obtain⟨a,u1,k,e1,⟨w1,V,w2⟩,hk,d1⟩:=yUm (P:=fun k a=>Wk k a∧ ∃V,Lv k V a) (K:=480) (fun k a h=>⟨h.1.1,h.1.2.1⟩)
  (fun k a b h ht hk=>by
   obtain⟨hw,V,hi⟩:=h;have hw':=y0d hw ht (by omega)
   exact⟨ydv hw' (by omega),(yLB hi ht (by omega)).1 hw'.2.2.1.1⟩) (fun id g g1 g2 g3=>⟨y29 g1 g2 g3,_,y4X g1 g2 g3⟩) u most h (by omega) (by omega) (by omega)
 obtain⟨x,u2,e2,q3,d2⟩:=y2v u1 [(-1),0,1,2,3,4,6,8,11,15,20] d1 (by simp);obtain⟨r,u3,e3,q4,d3⟩:=yda u2 3 d2;simp only[List.mem_cons,List.not_mem_nil,or_false]at q3;have:=q4.1; have:=q4.2.1 (by omega);have hlv:=y3J (x:=x) w2 (by omega);obtain⟨a',u',e4,g1⟩:=yPv (1+r).toNat k V (yh2 a x false) u3 18446744073709551616 (by omega) (by omega) d3 hlv (by omega);rw[show(((1+r).toNat:Nat):Int)=1+r by omega]at e4;unfold ygP;simp only[e1,e2,e3,zkF,wq (1+r) (by omega) (by omega)];refine⟨a',u',?_,yQl g1 (by omega)⟩
 have hu:yh2 a x false=(a.1,a.2.1,a.2.2.1,a.2.2.2.1,a.2.2.2.2.1,a.2.2.2.2.2.1,a.2.2.2.2.2.2.1,a.2.2.2.2.2.2.2.1,a.2.2.2.2.2.2.2.2.1,x,a.2.2.2.2.2.2.2.2.2.2.1,a.2.2.2.2.2.2.2.2.2.2.2):=by
  unfold yh2;rw[show a.2.2.2.2.2.2.2.2.2.2.1=false from w2.x.xu]
 rw[hu]at e4;exact(congrArg (fun z=>zkr z _ _) (show ynS (yJ7 (1+r) yaJ (a.1,a.2.1,a.2.2.1,a.2.2.2.1,a.2.2.2.2.1,a.2.2.2.2.2.1,a.2.2.2.2.2.2.1,a.2.2.2.2.2.2.2.1,a.2.2.2.2.2.2.2.2.1,x,a.2.2.2.2.2.2.2.2.2.2.1,a.2.2.2.2.2.2.2.2.2.2.2) u3)=_ from e4)).trans rfl
theorem y3h (a0:List Int) (hb:a0.length≤140737488355328): ∃(a:dA) (ks:List Int) (n:Int),ygO a0=some ((a,ks,n,()),())∧Fin 600 a∧0≤n∧n<20:=by
 unfold ygO;obtain⟨h1,h2⟩:=y3z a0 24 (by omega) hb;obtain⟨ks,u1,e1,q1,d1⟩:=y4a _ (y4L a0 hb);obtain⟨n,u2,e2,q2,d2⟩:=yda u1 20 d1;obtain⟨a,u3,e3,q3⟩:=y56 u2 (6+ybb a0 24) d2 (by omega) (by omega);simp only[e1,e2,e3,zkF,wq (6+ybb a0 24) (by omega) (by omega)];exact⟨a,ks,n,rfl,q3,q2.1,q2.2.1 (by omega)⟩
def y0w:Code:=(f141.body).getD .skip
def y02:Env:=zku TT [(87,yll),(111,ynu),(168,yuK)] []
theorem yQF:FrOk prog ⟨y02,38,fun _=>none⟩ y0w:=zky yf yg ⟨yvu,yxW,yIc,trivial⟩
abbrev ylM:List Par:= [.rd tA,.rd tI,.rd tI]
abbrev yrH:List OT:= [⟨false,tI,.fz⟩,⟨false,tB,.fz⟩]
def yvE (a0:dA) (a1 a2:Int):Option (zaY yrH×zak ylM) :=bif(inb a1 a0.2.2.1.length)then let r1:=yic a2;let r2:=ybW ((nth a0.2.2.1 a1 ([],[],false,[])).1,((nth a0.2.2.1 a1 ([],[],false,[])).2).1,(((nth a0.2.2.1 a1 ([],[],false,[])).2).2)) r1;let r3:=yf3 a0 a1 a2;bif(!(!r3))then bif(!(!r2.2))then bif((r2.1.length:Int) !=1)then some ((0,false,()),()) else bif(inb 0 r2.1.length)then some (((nth r2.1 0 0),true,()),()) else none else some ((0,false,()),()) else some ((0,false,()),()) else none
theorem yVZ:ConOk prog 141 ⟨ylM,yrH,fun x=>yvE x.1 x.2.1 x.2.2.1⟩:=zkG (yQF) func141 ntmps141.symm fun x=>by kernel_rfl
def yl3 (a0:dA) (a1 a2:Int):Int×Bool:=(yq2 a0 a1 a2,yG a0 a1 a2)
def yBa (a0:dA) (a1 a2:Int):Bool:=inb a1 a0.2.2.1.length
theorem yYr (a0:dA) (a1 a2:Int) (hk:zjw ylM (a0,a1,a2,())) (hq:yBa a0 a1 a2=true):yvE a0 a1 a2=(fun n=>some ((n.1,n.2,()),())) (yl3 a0 a1 a2):=by
 unfold yvE yl3 yq2 yf3;simp only[zkV,yxR,ybW];rw[show yG a0 a1 a2=(ycQ a0 a1 a2&&((ydw a0 a1 a2).2&&((ydw a0 a1 a2).1.length:Int)==1))from rfl];rw[show yQ (nth a0.2.2.1 a1 ([],[],false,[])) (yy a2)=ydw a0 a1 a2 from rfl];rw[show inb a1 a0.2.2.1.length=true from hq];cases hl:ycQ a0 a1 a2
 ·rfl
 ·cases(ydw a0 a1 a2).2
  ·rfl
  ·rw[bne]
   cases h1:(((ydw a0 a1 a2).1.length:Int)==1)
   ·rfl
   ·rw[show inb 0 (ydw a0 a1 a2).1.length=true from zj4.2 (by have:=beq_iff_eq.1 h1; omega)]; rfl
def yrP (a0:dA) (a1 a2:Int):Option (zaY yrH×zak ylM):=bif yBa a0 a1 a2 then(fun n=>some ((n.1,n.2,()),())) (yl3 a0 a1 a2)else none
theorem yZt (a0:dA) (a1 a2:Int) (h:yBa a0 a1 a2=true):yrP a0 a1 a2=(fun n=>some ((n.1,n.2,()),())) (yl3 a0 a1 a2):=by unfold yrP; rw[h]; rfl
def yGk:Con:=⟨ylM,yrH,fun x=>yrP x.1 x.2.1 x.2.2.1⟩
theorem yZe:ConOk prog 141 yGk:=(yVZ).mono (fun x r hk h=>zkW h (fun hq=>yYr x.1 x.2.1 x.2.2.1 hk hq))
def yKu:Code:=(f191.body).getD .skip
def yKz:Env:=zku TT [(81,yM),(185,yxJ)] []
theorem yHZ:FrOk prog ⟨yKz,20,fun _=>none⟩ yKu:=zky yf yg ⟨yS,yJt,trivial⟩
abbrev yio:List Par:= [.rd tL,.rd tI]
abbrev ynX:List OT:= [⟨false,tI,.fz⟩]
def ylx (a0:List Int) (a1:Int):Option (zaY ynX×zak yio) :=let r1:=yfz a0;let r2:=yj a1 0 (i64.wrap ((a0.length:Int)-1));bif r2 then bif(inb a1 a0.length)then some (((i64.wrap ((BitVec.ofInt IntKind.i64.bits r1 ^^^ BitVec.ofInt IntKind.i64.bits (nth a0 a1 0)).toNat:Int)),()),()) else none else some ((r1,()),())
theorem yI3:ConOk prog 191 ⟨yio,ynX,fun x=>ylx x.1 x.2.1⟩:=zkG (yHZ) func191 ntmps191.symm fun x=>by kernel_rfl
def yfx (a0:List Int) (a1:Int):Int:=yoa a0 a1
theorem yJ9 (a0:List Int) (a1:Int) (hk:zjw yio (a0,a1,())):ylx a0 a1=(fun n=>some ((n,()),())) (yfx a0 a1):=by
 have hb:a0.length*8≤2^47:=hk.1.1;unfold ylx yfx yoa yfz;rw[yal,ykt (show a0.length≤1152921504606846976 by omega)];cases inb a1 a0.length<;>rfl
def yuL:Con:=⟨yio,ynX,fun x=>(fun n=>some ((n,()),())) (yfx x.1 x.2.1)⟩
theorem yKj:ConOk prog 191 yuL:=(yI3).mono (fun x r hk h=>(yJ9 x.1 x.2.1 hk).trans h)
end
end Go.Tf
