/- Functions of the program, and what they come to. -/
import Derived.Test.YtolmneojjjpnjaaGreatTornF3
namespace Go.Tf
noncomputable section
open Go.Proofs Go.Proofs.Tryz IntKind
set_option synthInstance.maxHeartbeats 400000
set_option synthInstance.maxSize 10000
set_option linter.unusedVariables false
set_option linter.unusedSimpArgs false
set_option maxRecDepth 100000
def yV0:Code:=(f143.body).getD .skip
def yWr:Env:=zku TT [(76,yiM)] [(12288,(.pr .fz .fz))]
theorem yMP:FrOk prog ⟨yWr,10,fun _=>none⟩ yV0:=zky yf yg ⟨yo6,trivial⟩
abbrev ywq:List Par:= [.rd tM]
abbrev ywI:List OT:= [⟨false,tM,(.pr (.ow .fz) (.pr (.ow (.pr .fz .fz)) (.pr .fz (.ow .fz))))⟩]
def yEr (a0:dM):Option (zaY ywI×zak ywq) :=let r1:=yaJ a0;some (((r1.1,([]:List dW),true,r1.2.2.2),()),())
theorem yRa:ConOk prog 143 ⟨ywq,ywI,fun x=>yEr x.1⟩:=zkG (yMP) func143 ntmps143.symm fun x=>by kernel_rfl
def yoX (a0:dM):dM :=let r1:=yaJ a0;(r1.1,([]:List dW),true,r1.2.2.2)
def yDn:Con:=⟨ywq,ywI,fun x=>(fun n=>some ((n,()),())) (yoX x.1)⟩
theorem yUi (a0:dM):yEr a0=(fun n=>some ((n,()),())) (yoX a0):=zkT (p:=fun(n:dM)=>((n,()),())) rfl
theorem yVj:ConOk prog 143 yDn:=(yRa).mono (fun x r _ h=>(yUi x.1).trans h)
def yV3:Code:=(f108.body).getD .skip
def yWu:Env:=zku TT [(143,yDn),(174,ymZ)] []
theorem yMU:FrOk prog ⟨yWu,62,fun _=>none⟩ yV3:=zky yf yg ⟨yVj,yw3,trivial⟩
abbrev yjL:List Par:= [.pt tA (.pr .fz (.pr (.pr .fz .fz) (.pr (.ow (.pr (.ow .fz) (.pr (.ow (.pr .fz .fz)) (.pr .fz (.ow .fz))))) (.pr .fz (.pr .fz (.pr .fz (.pr .fz (.pr .fz (.pr (.ow (.pr .fz .fz)) (.pr .fz (.pr .fz .fz))))))))))),.rd tI]
abbrev yoI:List OT:= []
def yr5 (a0:dA) (a1:Int):Option (zaY yoI×zak yjL) :=bif(inb a1 a0.2.2.1.length)then let r1:=yoX ((nth a0.2.2.1 a1 ([],[],false,[])).1,((nth a0.2.2.1 a1 ([],[],false,[])).2).1,(((nth a0.2.2.1 a1 ([],[],false,[])).2).2));bif(inb a1 a0.2.2.1.length)then bif(!(a0.2.2.2.1==(-1)))then bif(a0.2.2.2.1==a1)then bif(!a0.2.2.2.2.2.2.2.2.2.2.1)then bif(!a0.2.2.2.2.2.2.2.2.2.2.2)then bif(ltb a0.2.2.2.2.2.2.2.1 60000)then let r2:=ya7 (a0.1,a0.2.1,(a0.2.2.1.set (a1).toNat r1),a1,0,a0.2.2.2.2.2);some ((),(r2,())) else some ((),((a0.1,a0.2.1,(a0.2.2.1.set (a1).toNat r1),a1,0,a0.2.2.2.2.2),())) else some ((),((a0.1,a0.2.1,(a0.2.2.1.set (a1).toNat r1),a1,0,a0.2.2.2.2.2),())) else some ((),((a0.1,a0.2.1,(a0.2.2.1.set (a1).toNat r1),a1,0,a0.2.2.2.2.2),())) else bif(!a0.2.2.2.2.2.2.2.2.2.2.1)then some ((),((a0.1,a0.2.1,(a0.2.2.1.set (a1).toNat r1),a0.2.2.2.1,a0.2.2.2.2.1,a0.2.2.2.2.2.1,a0.2.2.2.2.2.2.1,a0.2.2.2.2.2.2.2.1,a0.2.2.2.2.2.2.2.2.1,a0.2.2.2.2.2.2.2.2.2.1,a0.2.2.2.2.2.2.2.2.2.2.1,true),())) else some ((),((a0.1,a0.2.1,(a0.2.2.1.set (a1).toNat r1),a0.2.2.2.1,a0.2.2.2.2.1,a0.2.2.2.2.2.1,a0.2.2.2.2.2.2.1,a0.2.2.2.2.2.2.2.1,a0.2.2.2.2.2.2.2.2.1,a0.2.2.2.2.2.2.2.2.2.1,a0.2.2.2.2.2.2.2.2.2.2.1,true),())) else bif(!a0.2.2.2.2.2.2.2.2.2.2.1)then bif(!a0.2.2.2.2.2.2.2.2.2.2.2)then bif(ltb a0.2.2.2.2.2.2.2.1 60000)then let r3:=ya7 (a0.1,a0.2.1,(a0.2.2.1.set (a1).toNat r1),a1,0,a0.2.2.2.2.2);some ((),(r3,())) else some ((),((a0.1,a0.2.1,(a0.2.2.1.set (a1).toNat r1),a1,0,a0.2.2.2.2.2),())) else some ((),((a0.1,a0.2.1,(a0.2.2.1.set (a1).toNat r1),a1,0,a0.2.2.2.2.2),())) else some ((),((a0.1,a0.2.1,(a0.2.2.1.set (a1).toNat r1),a1,0,a0.2.2.2.2.2),())) else none else none
theorem yRe:ConOk prog 108 ⟨yjL,yoI,fun x=>yr5 x.1 x.2.1⟩:=zkG (yMU) func108 ntmps108.symm fun x=>by kernel_rfl
def yoY (a0:dA) (a1:Int):dA:=yhK a0 a1
def yw6 (a0:dA) (a1:Int):Bool:=inb a1 a0.2.2.1.length
theorem yUm (a0:dA) (a1:Int) (hk:zjw yjL (a0,a1,())) (hq:yw6 a0 a1=true):yr5 a0 a1=(fun n=>some ((),(n,()))) (yoY a0 a1):=by
 have hq:inb a1 a0.2.2.1.length=true:=hq;unfold yr5 yoY yhK yau yS8 yft ya;simp only[hq,zkV,yoX,yaJ,ya7];cases(a0.2.2.2.1== -1)<;>cases(a0.2.2.2.1==a1)<;>cases a0.2.2.2.2.2.2.2.2.2.2.1<;>cases a0.2.2.2.2.2.2.2.2.2.2.2<;>cases ltb a0.2.2.2.2.2.2.2.1 60000<;>rfl
def ykl (a0:dA) (a1:Int):Option (zaY yoI×zak yjL):=bif yw6 a0 a1 then(fun n=>some ((),(n,()))) (yoY a0 a1)else none
theorem yVu (a0:dA) (a1:Int) (h:yw6 a0 a1=true):ykl a0 a1=(fun n=>some ((),(n,()))) (yoY a0 a1):=by unfold ykl; rw[h]; rfl
def yDr:Con:=⟨yjL,yoI,fun x=>ykl x.1 x.2.1⟩
theorem yVn:ConOk prog 108 yDr:=(yRe).mono (fun x r hk h=>zkW h (fun hq=>yUm x.1 x.2.1 hk hq))
def ymo:Code:=(f112.body).getD .skip
def ys3:Env:=zku TT [(76,yiM),(82,yM),(160,ygA),(161,ywV)] []
theorem yKr:FrOk prog ⟨ys3,68,fun _=>none⟩ ymo:=zky yf yg ⟨yo6,yX,ylK,yIM,trivial⟩
def yAs:Nat→Option Seg:=fun _=>none
def ybh:Shape:=⟨[(1,false,[.int .i64]),(4,false,[.ptr 64 0]),(5,false,[.ptr 4224 0]),(6,false,[.int .i64])],[(64,[.nil,.nil,.bool,.nil]),(4224,[.at 800000000,.at 800000001,.bool,.at 800000002])],[(800000000,tL,.fz),(800000001,tW,(.pr .fz .fz)),(800000002,tI,.fz)]⟩
def yep:Shape:=⟨[(1,false,[.int .i64]),(4,false,[.ptr 64 0]),(5,false,[.ptr 4224 0]),(6,false,[.int .i64])],[(64,[.nil,.nil,.bool,.nil]),(4224,[.at 800000000,.at 800000001,.bool,.at 800000002])],[(800000000,tL,.fz),(800000001,tW,(.pr .fz .fz)),(800000002,tI,.fz)]⟩
def yej:Shape:=⟨[(1,false,[.int .i64]),(4,false,[.ptr 64 0]),(5,false,[.ptr 4224 0]),(6,false,[.int .i64])],[(64,[.nil,.nil,.bool,.nil]),(4224,[.at 800000000,.at 800000001,.bool,.at 800000002])],[(800000000,tL,.fz),(800000001,tW,(.pr .fz .fz)),(800000002,tI,.fz)]⟩
def yhz:Shape:=⟨[],[],[]⟩
abbrev yk4 (v0 v1:Int) (v2 v3:dM):(ybh).X:=(((v0,()),((),()),((),()),(v1,()),()),(((),(),v2.2.2.1,(),()),((),(),v3.2.2.1,(),()),()),(v3.1,v3.2.1,v3.2.2.2,()))
abbrev yIf (v0 v1:Int) (v2 v3:dM):(yep).X:=(((v0,()),((),()),((),()),(v1,()),()),(((),(),v2.2.2.1,(),()),((),(),v3.2.2.1,(),()),()),(v3.1,v3.2.1,v3.2.2.2,()))
abbrev yH9 (v0 v1:Int) (v2 v3:dM):(yej).X:=(((v0,()),((),()),((),()),(v1,()),()),(((),(),v2.2.2.1,(),()),((),(),v3.2.2.1,(),()),()),(v3.1,v3.2.1,v3.2.2.2,()))
def ylg (v0 v1:Int) (v2 v3:Bool) (v4:List (List Int)) (v5:List dW) (v6:List Int):Option ((ybh).X ⊕ ((yej).X ⊕ (yhz).X)) :=bif(ltb 0 v1)then bif(inb (i64.wrap (v1-1)) v6.length)then bif(ltb v0 (nth v6 (i64.wrap (v1-1)) 0))then bif(inb (i64.wrap (v1-1)) v6.length)then bif(inb v1 v6.length)then some (.inl (((v0,()),((),()),((),()),((i64.wrap (v1-1)),()),()),(((),(),v2,(),()),((),(),v3,(),()),()),(v4,v5,(v6.set (v1).toNat (nth v6 (i64.wrap (v1-1)) 0)),()))) else none else none else some (.inr (.inl (((v0,()),((),()),((),()),(v1,()),()),(((),(),v2,(),()),((),(),v3,(),()),()),(v4,v5,v6,())))) else none else some (.inr (.inl (((v0,()),((),()),((),()),(v1,()),()),(((),(),v2,(),()),((),(),v3,(),()),()),(v4,v5,v6,()))))
def ybv (x:(ybh).X):=ylg x.1.1.1 x.1.2.2.2.1.1 x.2.1.1.2.2.1 x.2.1.2.1.2.2.1 x.2.2.1 x.2.2.2.1 x.2.2.2.2.1
def yuq (x:(yep).X):(ybh).X:=(((x.1.1.1,()),((),()),((),()),(x.1.2.2.2.1.1,()),()),(((),(),x.2.1.1.2.2.1,(),()),((),(),x.2.1.2.1.2.2.1,(),()),()),(x.2.2.1,x.2.2.2.1,x.2.2.2.2.1,()))
def yvs:Code:=(zeJ ymo 64 504).getD .skip
theorem yIW:zeJ ymo 64 126=some (.block 0 (.loop yvs)):=by kernel_rfl
theorem yJz (x:(ybh).X):zhu ⟨ys3,68,yAs⟩ 0 yvs 504 ybh yej yhz x=ybv x:=by kernel_rfl
def yuy (x:(yep).X):Nat:=18446744073709551616
def ylV (x:(yep).X):Option ((yej).X ⊕ (yhz).X):=zF ybv (yuy x) (yuq x)
def yvh:Seg:=⟨yep,yej,yhz,ylV⟩
def yL7:Nat→Option Seg:=fun q=>bif Nat.beq q 126 then some yvh else yAs q
theorem yKs:FrOk prog ⟨ys3,68,yL7⟩ ymo:=(yKr).loop (sg:=yvh) ybh yuq (by decide) yIW ybv yuy (by decide) (fun _=>rfl) (fun x r _ h=>h) yJz
abbrev ymD:List Par:= [.rd tM,.rd tI]
abbrev ytT:List OT:= [⟨false,tM,(.pr (.ow .fz) (.pr (.ow (.pr .fz .fz)) (.pr .fz (.ow .fz))))⟩]
def yp4 (a0:dM) (a1:Int):Option (zaY ytT×zak ymD) :=let r1:=yaJ a0;let r2:=yaO a0;bif(!(!r2))then let r3:=yb a1 0 (i64.wrap ((a0.1.length:Int)-1));bif(!(!r3))then let r4:=yhm a0.2.2.2 a1;bif r4 then some ((r1,()),()) else bif(zkj r1.2.2.2.length ([a1]:List Int).length 8)then zkr (ylV (((a1,()),((),()),((),()),((i64.wrap (((r1.2.2.2++([a1]:List Int)).length:Int)-1)),()),()),(((),(),false,(),()),((),(),r1.2.2.1,(),()),()),(r1.1,r1.2.1,(r1.2.2.2++([a1]:List Int)),()))) (fun y4 =>bif(inb y4.1.2.2.2.1.1 y4.2.2.2.2.1.length)then some (((y4.2.2.1,y4.2.2.2.1,y4.2.1.2.1.2.2.1,(y4.2.2.2.2.1.set (y4.1.2.2.2.1.1).toNat y4.1.1.1)),()),()) else none) (fun y4 =>none) else none else some ((r1,()),()) else some ((r1,()),())
theorem yNQ:ConOk prog 112 ⟨ymD,ytT,fun x=>yp4 x.1 x.2.1⟩:=zkG (yKs) func112 ntmps112.symm fun x=>by kernel_rfl
def ym3 (a0:dM) (a1:Int):dM:=spoil a0 a1
theorem yVR (n:Int) (m:dM) (p:List Int) (hp: ∀x∈p,x<n): ∀(j:Nat) (q1 q2:List Int) (x:Int) (fuel:Nat),q1.length=j→j<fuel→(∀y∈q1,n<y)→p.length+q1.length≤1000 →
  ∃(x':Int) (q':List Int),q1++q2=q'∧zF ybv fuel (yk4 n ((p.length+q1.length:Nat):Int) yc (m.1,m.2.1,m.2.2.1,(p++q1)++x::q2))=some (.inl (yH9 n (p.length:Nat) yc (m.1,m.2.1,m.2.2.1,p++x'::q')))
 | 0,q1,q2,x,fuel+1,hj,hf,hq,hb=>by
  have:q1= []:=List.length_eq_zero_iff.1 hj;subst this;refine⟨x,q2,rfl,?_⟩;simp only[zF,ybv,yk4,ylg,List.length_nil,Nat.add_zero,List.append_nil];rcases List.eq_nil_or_concat p with rfl | ⟨P,y,rfl⟩
  ·rfl
  ·have hy:=hp y (by simp)
   simp only[List.concat_eq_append,List.length_append,List.length_cons,List.length_nil,List.append_assoc,List.cons_append,List.nil_append]at hb ⊢
   rw[zkw (show(0:Int)<((P.length+(0+1):Nat):Int)by omega),wq (((P.length+(0+1):Nat):Int)-1) (by omega) (by omega),show((P.length+(0+1):Nat):Int)-1=(P.length:Nat)by omega,
    zkP (by simp),zkQ,y2G,zk1 (show y≤n by omega)]
   rfl
 | j+1,q1,q2,x,fuel+1,hj,hf,hq,hb=>by
  rcases List.eq_nil_or_concat q1 with rfl | ⟨Q,y,rfl⟩
  ·cases hj
  ·rw[List.concat_eq_append]at hj hq hb ⊢
   have hQ:Q.length=j:=by simpa using hj
   have hy:=hq y (by simp);obtain⟨x',q',e1,e2⟩:=yVR n m p hp j Q (y::q2) y fuel hQ (by omega) (fun z hz=>hq z (by simp[hz])) (by simp at hb; omega);refine⟨x',q',by rw[← e1]; simp,?_⟩;rw[← e2];have ea:((p++(Q++ [y]))++x::q2)=(p++Q)++y::x::q2:=by simp
   have el:p.length+(Q++ [y]).length=(p++Q).length+1:=by simp; omega
   have el2:p.length+Q.length=(p++Q).length:=by simp
   have hb2:(p++Q).length≤1000:=by simp at hb ⊢; omega
   rw[ea,el,el2];generalize p++Q=A at hb2;rw[zF];simp only[ybv,yk4,ylg]
   have es:(A++y::x::q2).set (A.length+1) y=A++y::y::q2:=by
    have:=y2M (A++ [y]) x y q2;simp at this ⊢
   rw[zkw (show(0:Int)<((A.length+1:Nat):Int)by omega),wq (((A.length+1:Nat):Int)-1) (by omega) (by omega),show((A.length+1:Nat):Int)-1=(A.length:Nat)by omega,zkP (show A.length<(A++y::x::q2).length by simp),zkQ,y2G,zkw hy,
    zkP (show A.length+1<(A++y::x::q2).length by simp),Int.toNat_natCast,es]
   rfl
theorem yQQ (a0:dM) (a1:Int) (hk:zjw ymD (a0,a1,())):yp4 a0 a1=(fun n=>some ((n,()),())) (ym3 a0 a1):=by
 unfold yp4 ym3 spoil;simp only[yaJ,yaO,ybM,yhm];cases hm:yw a0
 ·rfl
 obtain⟨h1,h2,h3,h4,h5,h6⟩:=ycD hm;rw[ysr]at h3;have hlen:=yWE h3.2 (lo:=0) (n:=a0.1.length) h3.1 (by omega);rw[wq ((a0.1.length:Int)-1) (by omega) (by omega)]
 have hi:(leb 0 a1&&leb a1 ((a0.1.length:Int)-1))=inb a1 a0.1.length:=by
  rw[Bool.eq_iff_iff,Bool.and_eq_true,zj5,zj5,zj4]; omega
 rw[hi];cases hin:inb a1 a0.1.length
 ·rfl
 cases hh:a0.2.2.2.any (· ==a1)
 ·have hn:a1∉a0.2.2.2:=fun h=>by
   have:=List.any_eq_false.1 hh a1 h;simp at this
  have hsp:=y1Q h3.2 hn;have hp: ∀x∈a0.2.2.2.filter (fun x=>ltb x a1),x<a1:=fun x hx=>zj8.1 (List.mem_filter.1 hx).2
  have hq: ∀x∈a0.2.2.2.filter (fun x=>ltb a1 x),a1<x:=fun x hx=>zj8.1 (List.mem_filter.1 hx).2
  unfold yuC;generalize a0.2.2.2.filter (fun x=>ltb x a1)=P at hsp hp;generalize a0.2.2.2.filter (fun x=>ltb a1 x)=Q at hsp hq;have hPQ:P.length+Q.length=a0.2.2.2.length:=by rw[hsp,List.length_append]
  obtain⟨x',q',e1,e2⟩:=yVR a1 a0 P hp Q.length Q [] a1 18446744073709551616 rfl (by omega) hq (by omega);rw[List.append_nil]at e1;subst e1;simp only[cond_true,cond_false,Bool.not_true,Bool.not_false,Bool.and_self]
  rw[zkD.2 (show(a0.2.2.2.length+ [a1].length)*8≤140737488355328 by simp only[List.length_cons,List.length_nil]; omega),wr (show -9223372036854775808≤((a0.2.2.2++ [a1]).length:Int)-1 by omega) (by simp only[List.length_append,List.length_cons,List.length_nil]; omega),
   show((a0.2.2.2++ [a1]).length:Int)-1=((P.length+Q.length:Nat):Int)by simp only[List.length_append,List.length_cons,List.length_nil]; omega,hsp,cond_true]
  refine(congrArg (fun z=>zkr z _ _) (show ylV (yIf a1 ((P.length+Q.length:Nat):Int) yc (a0.1,a0.2.1,a0.2.2.1,(P++Q)++ [a1]))=_ from e2)).trans ?_;simp only[zkL];show(bif inb (P.length:Int) (P++x'::Q).length then some (((a0.1,a0.2.1,a0.2.2.1,(P++x'::Q).set (P.length:Int).toNat a1),()),())else none)=_;rw[zkP (by simp),Int.toNat_natCast,y2M]; rfl
 ·rfl
def yAV:Con:=⟨ymD,ytT,fun x=>(fun n=>some ((n,()),())) (ym3 x.1 x.2.1)⟩
theorem yRA:ConOk prog 112 yAV:=(yNQ).mono (fun x r hk h=>(yQQ x.1 x.2.1 hk).trans h)
section
def yZx:Code:=(f216.body).getD .skip
def yZ4:Env:=zku TT [(78,yG4),(82,yM),(200,yhf)] []
theorem yPU:FrOk prog ⟨yZ4,48,fun _=>none⟩ yZx:=zky yf yg ⟨y0A,yX,ym7,trivial⟩
abbrev yzs:List Par:= [.rd tA,.rd tI,.rd tL]
abbrev yz0:List OT:= [⟨false,tI,.fz⟩]
def yGe (a0:dA) (a1:Int) (a2:List Int):Option (zaY yz0×zak yzs) :=let r1:=yff a0;bif(!(!r1))then bif(!((a2.length:Int) !=(i64.wrap (a0.2.1.1-1))))then let r2:=yar a2;bif(!r2)then some ((1,()),()) else bif a0.2.2.2.2.2.2.2.2.2.2.1 then some ((6,()),()) else let r3:=yb a1 0 (i64.wrap (a0.2.1.2-1));bif(!r3)then some ((2,()),()) else bif a0.2.2.2.2.2.2.2.2.2.2.2 then some ((5,()),()) else bif(!(leb 60000 a0.2.2.2.2.2.1))then bif(leb 59990 a0.2.2.2.2.2.2.2.1)then some ((7,()),()) else some ((0,()),()) else some ((7,()),()) else some ((1,()),()) else some ((1,()),())
theorem yU6:ConOk prog 216 ⟨yzs,yz0,fun x=>yGe x.1 x.2.1 x.2.2.1⟩:=zkG (yPU) func216 ntmps216.symm fun x=>by kernel_rfl
def yP (a0:dA) (a1:Int) (a2:List Int):Int :=let r1:=yff a0;bif(!(!r1))then bif(!((a2.length:Int) !=(i64.wrap (a0.2.1.1-1))))then let r2:=yar a2;bif(!r2)then 1 else bif a0.2.2.2.2.2.2.2.2.2.2.1 then 6 else let r3:=yb a1 0 (i64.wrap (a0.2.1.2-1));bif(!r3)then 2 else bif a0.2.2.2.2.2.2.2.2.2.2.2 then 5 else bif(!(leb 60000 a0.2.2.2.2.2.1))then bif(leb 59990 a0.2.2.2.2.2.2.2.1)then 7 else 0 else 7 else 1 else 1
def yFB:Con:=⟨yzs,yz0,fun x=>(fun n=>some ((n,()),())) (yP x.1 x.2.1 x.2.2.1)⟩
theorem yXr (a0:dA) (a1:Int) (a2:List Int):yGe a0 a1 a2=(fun n=>some ((n,()),())) (yP a0 a1 a2):=zkT (p:=fun(n:Int)=>((n,()),())) (zkE (p:=fun(n:Int)=>((n,()),())) (zkE (p:=fun(n:Int)=>((n,()),())) (zkE (p:=fun(n:Int)=>((n,()),())) rfl (zkE (p:=fun(n:Int)=>((n,()),())) rfl (zkE (p:=fun(n:Int)=>((n,()),())) rfl (zkE (p:=fun(n:Int)=>((n,()),())) rfl (zkE (p:=fun(n:Int)=>((n,()),())) (zkE (p:=fun(n:Int)=>((n,()),())) rfl rfl) rfl))))) rfl) rfl)
theorem yYc:ConOk prog 216 yFB:=(yU6).mono (fun x r _ h=>(yXr x.1 x.2.1 x.2.2.1).trans h)
def yLL (l:List dW) (k:Nat):List dW:=l.take k++l.drop (k+1)
def yaR (a:dA) (s:Int):Int×dA :=bif ltb (yam a.2.2.2.2.2.2.2.2.1 s) 0 then(0,a)else bif yP a s (nth a.2.2.2.2.2.2.2.2.1 (yam a.2.2.2.2.2.2.2.2.1 s) (0,[])).2 !=0 then(yP a s (nth a.2.2.2.2.2.2.2.2.1 (yam a.2.2.2.2.2.2.2.2.1 s) (0,[])).2,a)else bif(yz a s (nth a.2.2.2.2.2.2.2.2.1 (yam a.2.2.2.2.2.2.2.2.1 s) (0,[])).2).1==0 then (0,yxq (yz a s (nth a.2.2.2.2.2.2.2.2.1 (yam a.2.2.2.2.2.2.2.2.1 s) (0,[])).2).2 (yLL a.2.2.2.2.2.2.2.2.1 (yam a.2.2.2.2.2.2.2.2.1 s).toNat)) else yz a s (nth a.2.2.2.2.2.2.2.2.1 (yam a.2.2.2.2.2.2.2.2.1 s) (0,[])).2
theorem yxU {a:dA} {s:Int} {d:List Int} (h:yP a s d=0):yal a=true∧(d.length:Int)=a.2.1.1-1∧d.all isW=true∧ya a=false∧yL a.2.1 s=true∧a.2.2.2.2.2.2.2.2.2.2.2=false∧a.2.2.2.2.2.1<60000∧a.2.2.2.2.2.2.2.1<59990:=by
 unfold yP at h;simp only[yff,yhR,ybM]at h;cases ha:yal a
 ·rw[ha]at h; exact absurd (show(1:Int)=0 from h) (by decide)
 have hg:=yl.1 (yiK ha);rw[ha,wq (a.2.1.1-1) (by omega) (by omega),wq (a.2.1.2-1) (by omega) (by omega)]at h;cases hl:((d.length:Int) !=a.2.1.1-1)
 ·cases hw:d.all isW
  ·rw[hl,hw]at h; exact absurd (show(1:Int)=0 from h) (by decide)
  cases hd:a.2.2.2.2.2.2.2.2.2.2.1
  ·cases hs:(leb 0 s&&leb s (a.2.1.2-1))
   ·rw[hl,hw,hd,hs]at h; exact absurd (show(2:Int)=0 from h) (by decide)
   cases hb:a.2.2.2.2.2.2.2.2.2.2.2
   ·cases h6:leb 60000 a.2.2.2.2.2.1
    ·cases h7:leb 59990 a.2.2.2.2.2.2.2.1
     ·have e6: ¬(60000≤a.2.2.2.2.2.1):=fun g=>by rw[zk0 g]at h6; cases h6
      have e7: ¬(59990≤a.2.2.2.2.2.2.2.1):=fun g=>by rw[zk0 g]at h7; cases h7
      exact⟨rfl,bne_eq_false_iff_eq.1 hl,rfl,hd,by unfold yL; rw[yiK ha,hs]; rfl,rfl,by omega,by omega⟩
     ·rw[hl,hw,hd,hs,hb,h6,h7]at h; exact absurd (show(7:Int)=0 from h) (by decide)
    ·rw[hl,hw,hd,hs,hb,h6]at h; exact absurd (show(7:Int)=0 from h) (by decide)
   ·rw[hl,hw,hd,hs,hb]at h; exact absurd (show(5:Int)=0 from h) (by decide)
  ·rw[hl,hw,hd]at h; exact absurd (show(6:Int)=0 from h) (by decide)
 ·rw[hl]at h; exact absurd (show(1:Int)=0 from h) (by decide)
theorem yYx (a:dA):(yv a).2.2.2.2.2.2.2.2.1=a.2.2.2.2.2.2.2.2.1:=by
 unfold yv;cases leb 4 (i64.wrap (a.2.2.2.2.2.1-a.2.2.2.2.2.2.1))
 ·rfl
 ·exact yOe a
theorem y2m (a:dA):(yC a).2.2.2.2.2.2.2.2.1=a.2.2.2.2.2.2.2.2.1:=rfl
theorem y2p (a:dA) (s:Int) (d:List Int):(yz a s d).2.2.2.2.2.2.2.2.2.1=a.2.2.2.2.2.2.2.2.1:=by
 unfold yz;have h2:=(yS6 (ya2 (yv a) ((yv a).2.2.2.2.2.1,s,d))).trans (yYx a);generalize yo (yv a) ((yv a).2.2.2.2.2.1,s,d)=R at h2 ⊢;have h3:=(yS6 (yd7 (yC R) s d)).trans ((y2m R).trans h2);generalize yB (yC R) s d=Q at h3 ⊢;cases ya (yv a)
 ·cases ya R
  ·exact h3
  ·exact h2
 ·exact yYx a
theorem y3B {l:List dW} {k:Int} (h0:0≤k) (h1:k<(l.length:Int)):(([]:List dW)++((l.drop (0:Int).toNat).take (k-0).toNat))++((l.drop (k+1).toNat).take ((l.length:Int)-(k+1)).toNat)=yLL l k.toNat:=by
 unfold yLL;rw[List.nil_append,show(0:Int).toNat=0 from rfl,List.drop_zero,Int.sub_zero,show(k+1).toNat=k.toNat+1 by omega,List.take_of_length_le (l:=l.drop (k.toNat+1)) (by rw[List.length_drop]; omega)]
def ylX (_:Nat) (a:dA):dA ⊕ (Int×dA):=bif(yaR a (nth a.2.2.2.2.2.2.2.2.1 0 (0,[])).1).1 !=0 then .inr (yaR a (nth a.2.2.2.2.2.2.2.2.1 0 (0,[])).1)else .inl (yaR a (nth a.2.2.2.2.2.2.2.2.1 0 (0,[])).1).2
def yJS (a:dA):Int×dA:=goE ylX (fun b=>(0,b)) a.2.2.2.2.2.2.2.2.1.length 0 a
theorem y25 {e:dW} {l:List dW}:yam (e::l) e.1=0:=by
 unfold yam;rw[yBT,show(e.1==e.1)=true from beq_self_eq_true _]; rfl
theorem y26 {a:dA} (h:0<a.2.2.2.2.2.2.2.2.1.length) (h0:(yaR a (nth a.2.2.2.2.2.2.2.2.1 0 (0,[])).1).1=0):(yaR a (nth a.2.2.2.2.2.2.2.2.1 0 (0,[])).1).2.2.2.2.2.2.2.2.2.1=a.2.2.2.2.2.2.2.2.1.drop 1:=by
 unfold yaR at h0 ⊢
 have hk:yam a.2.2.2.2.2.2.2.2.1 (nth a.2.2.2.2.2.2.2.2.1 0 (0,[])).1=0:=by
  cases hl:a.2.2.2.2.2.2.2.2.1 with
  | nil=>rw[hl]at h; exact absurd h (Nat.lt_irrefl 0)
  | cons e l=>exact y25
 rw[hk]at h0 ⊢;generalize (nth a.2.2.2.2.2.2.2.2.1 0 (0,[])).2=D at h0 ⊢;generalize (nth a.2.2.2.2.2.2.2.2.1 0 (0,[])).1=s at h0 ⊢;cases hc:(yP a s D !=0)
 ·rw[hc]at h0
  cases hr:((yz a s D).1==0)
  ·rw[hr]at h0
   exact absurd (show(yz a s D).1=0 from h0) (beq_eq_false_iff_ne.1 hr)
  ·rfl
 ·rw[hc]at h0
  exact absurd (show yP a s D=0 from h0) (bne_iff_ne.1 hc)
inductive Turned (a:dA):dA→Prop where
 | same:Turned a a
 | put (b x:Int):yeP a.2.1 b=true→isW x=true→Turned a (yqz a b x).2
 | flush (s:Int):Turned a (yaR a s).2
 | all:Turned a (yJS a).2
 | fail (m:Int):a.2.2.2.1= -1→inb m a.2.2.1.length=true→Turned a (yhK a m)
 | spare:inb a.2.2.2.1 a.2.2.1.length=true→(nth a.2.2.1 a.2.2.2.1 yc).2.2.1=true→Turned a (yD (yaa a))
 | step:inb a.2.2.2.1 a.2.2.1.length=true→(nth a.2.2.1 a.2.2.2.1 yc).2.2.1=false→a.2.2.2.2.1<a.2.1.2→Turned a (yfC a).2
 | check:Turned a (yp a)
 | spoil (m s:Int):a.2.2.2.1= -1→inb m a.2.2.1.length=true→0≤s→s<a.2.1.2→Turned a (ybp a m (spoil (nth a.2.2.1 m yc) (yA s)))
def y0N (g:dG) (e:dW):Prop:=(0≤e.1∧e.1≤g.2-1)∧(e.2.length:Int)=g.1-1∧e.2.all isW=true
theorem yxX {g:dG} {l:List dW}:yaT g l=true↔(∀e∈l,y0N g e)∧l.Pairwise (fun x y=>x.1<y.1):=by
 have bad: ∀i,yhI g l i=false↔y0N g (nth l i (0,[]))∧(0<i→(nth l ((i-1:Nat):Int) (0,[])).1<(nth l i (0,[])).1):=by
  intro i;unfold yhI y0N;simp only[Bool.or_eq_false_iff,Bool.not_eq_false',bne_eq_false_iff_eq,Bool.and_eq_true,Bool.and_eq_false_iff,decide_eq_false_iff_not,zj5];constructor
  ·rintro⟨h1,h2,h3,h4⟩
   refine⟨⟨h1,h2,h3⟩,fun h0=> ?_⟩;rcases h4 with h4 | h4
   ·exact absurd h0 h4
   ·have:=mt zk0 (by rw[h4]; simp: ¬leb (nth l i (0,[])).1 (nth l ((i-1:Nat):Int) (0,[])).1=true)
    omega
  ·rintro⟨⟨h1,h2,h3⟩,h4⟩
   refine⟨h1,h2,h3,?_⟩;by_cases h0:0<i
   ·exact .inr (zkZ (by have:=h4 h0; omega))
   ·exact .inl h0
 unfold yaT;simp only[Bool.not_eq_true',List.any_eq_false,List.mem_range,Bool.not_eq_true,bad];constructor
 ·intro h
  refine⟨fun e he=> ?_,?_⟩
  ·obtain⟨i,hi,rfl⟩:=List.getElem_of_mem he
   have:=(h i hi).1;rwa[zkQ,zkH hi]at this
  ·rw[List.pairwise_iff_getElem]
   have step: ∀(d i:Nat) (hi:i<l.length) (hj:i+d+1<l.length),l[i].1<l[i+d+1].1:=by
    intro d
    induction d with
    | zero =>
     intro i hi hj;have:=(h (i+1) hj).2 (by omega);rwa[Nat.add_sub_cancel,zkQ,zkQ,zkH hi,zkH hj]at this
    | succ d ih =>
     intro i hi hj;have h1:=ih i hi (by omega);have:=(h (i+d+1+1) hj).2 (by omega);rw[Nat.add_sub_cancel,zkQ,zkQ,zkH (show i+d+1<l.length by omega),zkH (show i+d+1+1<l.length from hj)]at this;exact Int.lt_trans h1 this
   intro i j hi hj hij;have:=step (j-i-1) i hi (by omega);have e:i+(j-i-1)+1=j:=by omega
   simp only[e]at this;exact this
 ·rintro⟨h1,h2⟩ i hi
  rw[List.pairwise_iff_getElem]at h2;refine⟨by rw[zkQ,zkH hi]; exact h1 _ (List.getElem_mem hi),fun h0=> ?_⟩;rw[zkQ,zkQ,zkH hi,zkH (show i-1<l.length by omega)];exact h2 (i-1) i (by omega) hi (by omega)
theorem yYB {g:dG} {l:List dW} (k:Nat) (h:yaT g l=true):yaT g (yLL l k)=true:=by
 rw[yxX]at h ⊢
 have hs:(yLL l k).Sublist l:=by
  unfold yLL;have:(l.take k++l.drop (k+1)).Sublist (l.take k++l.drop k):=List.Sublist.append_left (by rw[← List.drop_drop]; exact List.drop_sublist _ _) _;rwa[List.take_append_drop]at this
 exact⟨fun e he=>h.1 e (hs.subset he),h.2.sublist hs⟩
theorem y1L (e:dW): ∀(l acc:List dW),l.foldl (ycG e) (true,acc)=(true,acc++l.filter (fun x=>x.1 !=e.1))
 | [],acc=>by simp
 | x::t,acc=>by
  rw[List.foldl_cons];have:ycG e (true,acc) x=(true,acc++(bif x.1 !=e.1 then[x]else[])):=rfl;rw[this,y1L e t,List.filter_cons];cases x.1 !=e.1<;>simp
theorem y3U {e:dW} {l:List dW} (h:l.Pairwise (fun x y=>x.1<y.1)):yLn l e=l.filter (fun x=>ltb x.1 e.1)++e::l.filter (fun x=>ltb e.1 x.1):=by
 have: ∀(l acc:List dW),l.Pairwise (fun x y=>x.1<y.1)→(bif(l.foldl (ycG e) (false,acc)).1 then(l.foldl (ycG e) (false,acc)).2 else(l.foldl (ycG e) (false,acc)).2++ [e])=acc++(l.filter (fun x=>ltb x.1 e.1)++e::l.filter (fun x=>ltb e.1 x.1)):=by
  intro l
  induction l with
  | nil=>intro acc _; simp
  | cons x t ih =>
   intro acc h;obtain⟨hx,ht⟩:=List.pairwise_cons.1 h;rw[List.foldl_cons];by_cases hle:e.1≤x.1
   ·have h1:ycG e (false,acc) x=(true,(acc++ [e])++(bif x.1 !=e.1 then[x]else[])):=by
     unfold ycG; rw[zk0 hle]; rfl
    have h2:t.filter (fun x=>x.1 !=e.1)=t:=List.filter_eq_self.2 (fun y hy=>bne_iff_ne.2 (by have:=hx y hy; omega));have h3:t.filter (fun x=>ltb x.1 e.1)= []:=List.filter_eq_nil_iff.2 (fun y hy=>by rw[zk1 (by have:=hx y hy; omega)]; simp);have h4:t.filter (fun x=>ltb e.1 x.1)=t:=List.filter_eq_self.2 (fun y hy=>zkw (by have:=hx y hy; omega));rw[h1,y1L,h2,List.filter_cons,List.filter_cons,h3,h4,zk1 (show e.1≤x.1 by omega)];by_cases he:x.1=e.1
    ·rw[show(x.1 !=e.1)=false from bne_eq_false_iff_eq.2 he,zk1 (show x.1≤e.1 by omega)]; simp
    ·rw[show(x.1 !=e.1)=true from bne_iff_ne.2 he,zkw (show e.1<x.1 by omega)]; simp
   ·have h1:ycG e (false,acc) x=(false,acc++ [x]):=by
     unfold ycG; rw[zkZ (show x.1<e.1 by omega),show(x.1 !=e.1)=true from bne_iff_ne.2 (by omega)]; rfl
    rw[h1,ih _ ht,List.filter_cons,List.filter_cons,zkw (show x.1<e.1 by omega),zk1 (show x.1≤e.1 by omega)];simp
 have:=this l [] h;rw[List.nil_append]at this;exact this
theorem yYC {g:dG} {l:List dW} {e:dW} (h:yaT g l=true) (he:y0N g e):yaT g (yLn l e)=true:=by
 rw[yxX]at h ⊢;rw[y3U h.2];refine⟨fun x hx=> ?_,?_⟩
 ·rcases List.mem_append.1 hx with h1 | h1
  ·exact h.1 x (List.mem_filter.1 h1).1
  ·rcases List.mem_cons.1 h1 with rfl | h1
   ·exact he
   ·exact h.1 x (List.mem_filter.1 h1).1
 ·rw[List.pairwise_append,List.pairwise_cons]
  refine⟨h.2.filter _,⟨fun y hy=>zj8.1 (List.mem_filter.1 hy).2,h.2.filter _⟩,fun x hx y hy=> ?_⟩;have h1:=zj8.1 (List.mem_filter.1 hx).2;rcases List.mem_cons.1 hy with rfl | hy
  ·exact h1
  ·exact Int.lt_trans h1 (zj8.1 (List.mem_filter.1 hy).2)
theorem yxY {g:dG} {l:List dW} (h:yaT g l=true) (hg:yd g=true):l.length≤8:=by
 rw[yxX]at h;have hg:=yl.1 hg
 have:=yWE (l:=l.map (fun e=>e.1)) (lo:=0) (n:=g.2) (by rw[List.pairwise_map]; exact h.2) (fun x hx=>by
  obtain⟨e,he,rfl⟩:=List.mem_map.1 hx
  have:=(h.1 e he).1; omega) (by omega)
 rw[List.length_map]at this;omega
theorem ywZ {a:dA} (r:dN) (h:yI a):yI (yo a r) :=ykB (ykY (P:=yI) (one:=ya8 r) (ylb r) (fun _ _ h hi=>ywY h (zkP hi)) _ a (Nat.le_refl _) h)
theorem y1n {a:dA} (r:dN) (h:ycB a):ycB (yo a r) :=yye (ykY (P:=ycB) (one:=ya8 r) (ylb r) (fun _ _ h _=>yH6 h _ _ _) _ a (Nat.le_refl _) h)
theorem yFM {a:dA} (s:Int) (d:List Int) (h:yI a):yI (yB a s d) :=
 ykY (P:=yI) (one:=ya9 (yk a.2.1 s) a.2.1.1 s d) (yqm _ _ _ _) (fun b i h hi=>by
  unfold ya9;cases ycC b i s
  ·exact h
  ·exact ywY h (zkP hi)) _ a (Nat.le_refl _) h
theorem yYH {a:dA} (s:Int) (d:List Int) (h:ycB a):ycB (yB a s d) :=
 ykY (P:=ycB) (one:=ya9 (yk a.2.1 s) a.2.1.1 s d) (yqm _ _ _ _) (fun b i h hi=>by
  unfold ya9;cases ycC b i s
  ·exact h
  ·exact yH6 h _ _ _) _ a (Nat.le_refl _) h
theorem y5F {k:Int} {a:dA} (r:dN) (h:Wk k a):Wk k (yo a r):=yB6 (ya2 _ _) (ywZ r h.2.1) (y1n r h.2.2.1) h
theorem y5d {k:Int} {a:dA} (s:Int) (d:List Int) (h:Wk k a):Wk k (yB a s d):=yB6 (yd7 _ _ _) (yFM s d h.2.1) (yYH s d h.2.2.1) h
theorem y4L {k:Int} {a:dA} (h:Wk k a) (h1:a.2.2.2.2.2.1<60000) (h2:a.2.2.2.2.2.1-a.2.2.2.2.2.2.1≤3):Wk k (yC a):=by
 obtain⟨⟨c1,c2,c3,c4,c5,c6,c7,c8,c9,c10,c11⟩,g2,g3,g4,g5⟩:=h;have e:i64.wrap (a.2.2.2.2.2.1+1)=a.2.2.2.2.2.1+1:=wr (by omega) (by omega);refine⟨⟨c1,c2,c3,c4,c5,c6,c7,⟨?_,?_⟩,?_,c10,c11⟩,g2,g3,g4,g5⟩
 ·show a.2.2.2.2.2.2.1≤i64.wrap (a.2.2.2.2.2.1+1); omega
 ·show i64.wrap (a.2.2.2.2.2.1+1)≤60000; omega
 ·show i64.wrap (a.2.2.2.2.2.1+1)≤a.2.2.2.2.2.2.1+4; omega
theorem yfJ {a b:dA} (h:yy a=yy b):a.2.2.2.2.2.1=b.2.2.2.2.2.1:=congrArg (fun x=>x.2.2.2.2.1) h
theorem yYz {a b:dA} (h:yy a=yy b):a.2.2.2.2.2.2.1=b.2.2.2.2.2.2.1:=congrArg (fun x=>x.2.2.2.2.2.1) h
theorem yS3 {a:dA} (h:ycB a):yy (yp a)=yy (yat (yU a)):=by
 rw[yHW h,yiQ];have:=yaF a;unfold yy at this ⊢;simp only[Prod.mk.injEq]at this;obtain⟨h1,h2,h3,h4,h5,h6,h7,h8,h9⟩:=this;unfold yat yU;simp only[h1,h2,h3,h4,h5,h7,h8,h9]
theorem y5D {k:Int} {a:dA} (h:Wk k a) (hk:k+1≤60000):Wk (k+1) (yv a)∧(yv a).2.2.2.2.2.1=a.2.2.2.2.2.1∧(yv a).2.2.2.2.2.1-(yv a).2.2.2.2.2.2.1≤3:=by
 have c:=h.1;unfold yT at c;unfold yv;rw[wr (by omega) (by omega)];cases h4:leb 4 (a.2.2.2.2.2.1-a.2.2.2.2.2.2.1)
 ·refine⟨ydi h (by omega),rfl,?_⟩
  have: ¬(4≤a.2.2.2.2.2.1-a.2.2.2.2.2.2.1):=fun g=>by rw[zk0 g]at h4; cases h4
  show a.2.2.2.2.2.1-a.2.2.2.2.2.2.1≤3; omega
 ·have e1:(yp a).2.2.2.2.2.1=a.2.2.2.2.2.1:=(yfJ (yS3 h.2.2.1)).trans rfl
  have e2:(yp a).2.2.2.2.2.2.1=a.2.2.2.2.2.1:=(yYz (yS3 h.2.2.1)).trans rfl;rw[cond_true];exact⟨y1U h hk,e1,by omega⟩
theorem y4O {k:Int} {a:dA} (s:Int) (d:List Int) (h:Wk k a) (hs:a.2.2.2.2.2.1<60000) (hk:k+1≤60000):Wk (k+1) (yz a s d).2∧(yz a s d).1=0:=by
 obtain⟨h1,h2,h3⟩:=y5D h hk;have h4:=y5F ((yv a).2.2.2.2.2.1,s,d) h1;have e1:=yfJ (ya2 (yv a) ((yv a).2.2.2.2.2.1,s,d));have e2:=yYz (ya2 (yv a) ((yv a).2.2.2.2.2.1,s,d));unfold yz;generalize yo (yv a) ((yv a).2.2.2.2.2.1,s,d)=R at h4 e1 e2 ⊢;have h5:=y5d s d (y4L h4 (by omega) (by omega));generalize yB (yC R) s d=Q at h5 ⊢;rw[h1.2.2.1.1,h4.2.2.1.1,h5.2.2.1.1];exact⟨h5,rfl⟩
theorem yOu {k:Int} {a:dA} {l:List dW} (h:Wk k a) (hd:yaT a.2.1 l=true):Wk k (yxq a l):=by
 obtain⟨⟨c1,c2,c3,c4,c5,c6,c7,c8,c9,c10,c11⟩,g2,g3,g4,g5⟩:=h;exact⟨⟨c1,c2,hd,c4,c5,c6,c7,c8,c9,c10,c11⟩,g2,g3,g4,g5⟩
theorem yY1 (a:dA) (s:Int) (d:List Int):(yz a s d).2.2.1=a.2.1:=by
 unfold yz;have h2:=(yah (ya2 (yv a) ((yv a).2.2.2.2.2.1,s,d))).trans (yWF a);generalize yo (yv a) ((yv a).2.2.2.2.2.1,s,d)=R at h2 ⊢;have h3:=(yah (yd7 (yC R) s d)).trans (show(yC R).2.1=a.2.1 from h2);generalize yB (yC R) s d=Q at h3 ⊢;cases ya (yv a)
 ·cases ya R
  ·exact h3
  ·exact h2
 ·exact yWF a
theorem y1V {k:Int} {a:dA} (s:Int) (h:Wk k a) (hk:k+1≤60000):Wk (k+1) (yaR a s).2:=by
 unfold yaR;cases ltb (yam a.2.2.2.2.2.2.2.2.1 s) 0
 ·generalize hD:(nth a.2.2.2.2.2.2.2.2.1 (yam a.2.2.2.2.2.2.2.2.1 s) (0,[])).2=D
  cases hc:(yP a s D !=0)
  ·have hz:=yxU (bne_eq_false_iff_eq.1 hc)
   obtain⟨h1,h2⟩:=y4O s D h hz.2.2.2.2.2.2.1 hk;rw[show((yz a s D).1==0)=true from beq_iff_eq.2 h2];exact yOu h1 (by rw[yY1]; exact yYB _ h.1.2.2.1)
  ·exact ydi h (by omega)
 ·exact ydi h (by omega)
theorem y1W {k:Int}: ∀(n i:Nat) (j:Int) (a:dA),Wk j a→j+n≤k→k≤60000→Wk k (goE ylX (fun b=>((0:Int),b)) n i a).2
 | 0,_,j,a,h,h1,_=>ydi h (by omega)
 | n+1,i,j,a,h,h1,h2=>by
  have h3:=y1V (nth a.2.2.2.2.2.2.2.2.1 0 (0,[])).1 h (by omega);unfold goE ylX;cases((yaR a (nth a.2.2.2.2.2.2.2.2.1 0 (0,[])).1).1 !=0)
  ·exact y1W n (i+1) (j+1) _ h3 (by omega) h2
  ·exact ydi h3 (by omega)
theorem y5B {k:Int} {a:dA} (h:Wk k a) (hk:k+8≤60000):Wk (k+8) (yJS a).2:=by
 have:=yxY h.1.2.2.1 h.1.1;exact y1W _ 0 k a h (by omega) hk
theorem y5G {k:Int} {a:dA} {b n:Int} (h:Wk k a) (hb:yeP a.2.1 b=true) (hn:isW n=true):Wk k (yqz a b n).2:=by
 unfold yqz;cases hs:(ybI a (yY a.2.1 b)).2
 ·exact h
 ·have hstr:=yGF hb
  have hl:=yAl (y5C h) hstr hs;refine yOu h (yYC h.1.2.2.1 ⟨(yV.1 hstr).2,by rw[List.length_set]; exact hl,yYn ?_ hn⟩);unfold ybI;cases hk:leb 0 (yam a.2.2.2.2.2.2.2.2.1 (yY a.2.1 b))
  ·rw[h.2.2.2.1]; exact yYA _ _
  ·have:=(ynz (d:=((0:Int),([]:List Int))) hk).1
   exact yB4 (P:=fun e:dW=>e.2.all isW=true) this (fun e he=>((yxX.1 h.1.2.2.1).1 e he).2.2)
def yIz (a:dA) (s:Int) (d:List Int):dA×Int:=bif yP a s d !=0 then(a,yP a s d)else((yz a s d).2,(yz a s d).1)
theorem y3t (a:dA) (s:Int) (d:List Int):(yz a s d).1=bif ya (yz a s d).2 then 6 else 0:=by
 unfold yz;generalize yv a=C;generalize yo C (C.2.2.2.2.2.1,s,d)=R;generalize yB (yC R) s d=Q;rcases Bool.eq_false_or_eq_true (ya C)with h | h
 ·rw[h,cond_true]
  exact(congrArg (fun x=>bif x then(6:Int)else 0) h).symm
 ·rw[h,cond_false]
  rcases Bool.eq_false_or_eq_true (ya R)with h2 | h2
  ·rw[h2,cond_true]
   exact(congrArg (fun x=>bif x then(6:Int)else 0) h2).symm
  ·rw[h2,cond_false]
theorem yYZ {k:Int} {a b:dA} (h:Wk k a) (ht:Turned a b) (hk:k+8≤60000):Wk (k+8) b:=by
 cases ht with
 | same=>exact ydi h (by omega)
 | put b x hb hx=>exact ydi (y5G h hb hx) (by omega)
 | flush s=>exact ydi (y1V s h (by omega)) (by omega)
 | all=>exact y5B h hk
 | fail m hl hm=>exact ydi (y5e h hl hm (by omega)) (by omega)
 | spare hl _=>exact ydi (y4M h hl (by omega)) (by omega)
 | step hl _ hb=>exact ydi (y5f h hl hb) (by omega)
 | check=>exact ydi (y1U h (by omega)) (by omega)
 | spoil m s _ hm _ _=>exact ydi (y4N h hm) (by omega)
structure Ix (k:Int) (V:Int→Int→Int) (a:dA):Prop where
 xc:yT a
 xk:yI a
 xu:ya a=false
 xb:a.2.2.2.2.2.2.2.2.2.2.2=false
 xg:a.2.2.2.2.2.2.2.1≤k
 xs:a.2.2.2.2.2.1≤k
 xe:EvV a.2.1 V
 xv:yHT V a
 xn: ∀i,0≤i→i<a.2.1.1→((yj a i).2.1.length:Int)≤1+(bif i==a.2.2.2.1 then a.2.2.2.2.1 else 0)
theorem yD4 {k:Int} {V:Int→Int→Int} {a:dA} (h:Ix k V a):yal a=true:=yB2.2 ⟨h.xc,h.xk⟩
theorem yWT {k j:Int} {V:Int→Int→Int} {a:dA} (h:Ix k V a) (hj:k≤j):Ix j V a:=⟨h.xc,h.xk,h.xu,h.xb,Int.le_trans h.xg hj,Int.le_trans h.xs hj,h.xe,h.xv,h.xn⟩
def yCD (S:Int) (m x:dM):Prop:=(x.2.2.1=false→m.2.2.1=false∧ ∀k,6≤k→k<6+S→yaZ x k=false→yaZ m k=false∧ycb x k=ycb m k)
theorem yFO (S:Int) (m:dM):yCD S m m:=fun h=>⟨h,fun _ _ _ hb=>⟨hb,rfl⟩⟩
theorem yH7 {S:Int} {m x y:dM} (h:yCD S m x) (g:yCD S x y):yCD S m y:=fun hy=>by
 obtain⟨h1,h2⟩:=g hy;obtain⟨h3,h4⟩:=h h1;exact⟨h3,fun k k0 k1 hb=>⟨(h4 k k0 k1 (h2 k k0 k1 hb).1).1,(h2 k k0 k1 hb).2.trans (h4 k k0 k1 (h2 k k0 k1 hb).1).2⟩⟩
theorem yBW {S:Int} {m:dM} (h:yw m=true):yCD S m (yE m):=fun hf=>by
 rw[(ysy m).2]at hf;exact⟨hf,fun k k0 k1 hb=>⟨by rw[yJZ]at hb; exact hb,y3G h hf (by omega)⟩⟩
theorem yP2 {S n:Int} {s:List Int} {m:dM} (hn:n<6):yCD S m (yec n s m):=fun hf=>by
 unfold yec at hf ⊢;cases hm:m.2.2.1
 ·refine⟨rfl,fun k k0 k1 hb=> ?_⟩
  rw[cond_false]at hb ⊢;cases hc:ybj m n s
  ·unfold yZ at hb ⊢
   rw[hc]at hb ⊢; exact⟨hb,rfl⟩
  ·rw[yxK hc,show(k !=n)=true from bne_iff_ne.2 (by omega),Bool.and_true]at hb
   rw[ynx hc,show(n==k)=false from beq_eq_false_iff_ne.2 (by omega)];exact⟨hb,rfl⟩
 ·rw[hm]at hf
  rw[cond_true,hm]at hf; cases hf
theorem yFL (n:Int) (s:List Int) (m:dM):(yec n s m).2.2.1=m.2.2.1:=by
 unfold yec;cases hm:m.2.2.1
 ·show(yZ m n s).1.2.2.1=false
  rw[(yyY m n s).2]; exact hm
 ·exact hm
theorem yLD {V:Int→Int→Int} {a b:dA} (hg:b.2.1=a.2.1) (hl: ∀i s,0≤i→i<a.2.1.1→0≤s→yaf b.2.2.2.1 b.2.2.2.2.1 i s (yj b i)=true→(i !=a.2.2.2.1||ltb s a.2.2.2.2.1)=true∧yCD a.2.1.2 (yj a i) (yj b i)) (h:yHT V a):yHT V b:=fun i s i0 i1 s0 s1 hh=>by
 rw[hg]at i1 s1;unfold yad at hh;rw[Bool.and_eq_true,Bool.not_eq_true']at hh;obtain⟨h1,h2⟩:=hl i s i0 i1 s0 hh.1
 have hf:(yj b i).2.2.1=false:=by
  have:=hh.1;simp only[yaf,Bool.and_eq_true,Bool.not_eq_true']at this; exact this.1
 obtain⟨h3,h4⟩:=h2 hf;obtain⟨h5,h6⟩:=h4 (s+6) (by omega) (by omega) hh.2;rw[h6];exact h i s i0 i1 s0 s1 (by unfold yad yaf; rw[h3,h1,h5]; rfl)
theorem y32 {V:Int→Int→Int} {a b:dA} (hc:yy b=yy a) (hl: ∀i,0≤i→i<a.2.1.1→yCD a.2.1.2 (yj a i) (yj b i)) (h:yHT V a):yHT V b :=
 yLD (yah hc) (fun i s i0 i1 s0 hh=>⟨by
  rw[ynw hc,yiN hc]at hh
  simp only[yaf,Bool.and_eq_true]at hh; exact hh.2,hl i i0 i1⟩) h
theorem yLP {k:Int} {V:Int→Int→Int} {a b:dA} (hc:yy b=yy a) (hk:yI b) (hu:ya b=false) (hl: ∀i,0≤i→i<a.2.1.1→yCD a.2.1.2 (yj a i) (yj b i)∧(yj b i).2.1.length≤(yj a i).2.1.length) (h:Ix k V a):Ix k V b:=by
 refine⟨yB3 hc h.xc,hk,hu,(yrA hc).trans h.xb,by rw[yrB hc]; exact h.xg,by rw[yfJ hc]; exact h.xs,by rw[yah hc]; exact h.xe,y32 hc (fun i i0 i1=>(hl i i0 i1).1) h.xv,fun i i0 i1=> ?_⟩;rw[yah hc]at i1;rw[ynw hc,yiN hc];have:=h.xn i i0 i1;have:=(hl i i0 i1).2;omega
theorem yCY {g:Int→dM→dM} {a r:dA} (h:Adv g a r a.2.2.1.length) (hu:ya r=false) {i:Int} (i0:0≤i) (i1:i<(a.2.2.1.length:Int)):yj r i=g i (yj a i):=by
 obtain⟨_,_,k,h1,h2,h3⟩:=h;rw[h2 i i0,h3 hu,zkw i1]; rfl
theorem yIs {a:dA} (hu:ya (ye a)=false) {i:Int} (i0:0≤i) (i1:i<(a.2.2.1.length:Int)):yj (ye a) i=yE (yj a i):=by
 cases hd:ya a
 ·exact yCY (yRX hd) hu i0 i1
 ·rw[ysH hd]at hu; rw[hd]at hu; cases hu
theorem y2N {a:dA} (hu:ya (ye a)=false):ya a=false:=by
 cases hd:ya a
 ·rfl
 ·rw[ysH hd]at hu; rw[hd]at hu; cases hu
theorem yOi {m:dM} (h:yw m=true):(yE m).2.1.length≤m.2.1.length:=by
 unfold yE;rw[h];cases m.2.2.1
 ·exact Nat.zero_le _
 ·exact Nat.le_refl _
theorem y2z {k:Int} {V:Int→Int→Int} {a:dA} (h:Ix k V a) (hu:ya (ye a)=false):Ix k V (ye a) :=
 yLP (yaF a) (ykB h.xk) hu (fun i i0 i1=>by
  obtain⟨d1,_,_⟩:=ydP h.xk i0 i1;rw[yIs hu i0 (by have:=h.xk.1.2; omega)]
  exact⟨yBW d1,yOi d1⟩) h
theorem y49 {a:dA} (hu:ya (yD a)=false):ya ((List.range a.2.2.1.length).foldl yae (yat a))=false∧ya a=false:=by
 have h1:=y2N hu;refine⟨h1,?_⟩;cases hd:ya a
 ·rfl
 ·rw[ykz (one:=yae) (fun _ _ h=>ynU h _ _ _) _ (yat a) hd]at h1
  exact(hd.symm.trans h1)
theorem y1A {a:dA} (hu:ya (yD a)=false) {i:Int} (i0:0≤i) (i1:i<(a.2.2.1.length:Int)):yj (yD a) i=yE (y0P (yat a) i (yj a i)):=by
 obtain⟨h1,h2⟩:=y49 hu;have hl:((List.range a.2.2.1.length).foldl yae (yat a)).2.2.1.length=a.2.2.1.length:=yja (one:=yae) (fun _ _=>yo7 _ _ _ _) _ (yat a);unfold yD at hu ⊢;rw[yIs hu i0 (by omega)];exact congrArg yE (yCY (a:=yat a) (y1z (a:=yat a) h2) h1 i0 i1)
theorem yoS {n:Int} {s:List Int} {m:dM} (h:yw m=true):yw (yec n s m)=true:=by
 unfold yec;cases m.2.2.1
 ·exact y1Y _ _ h
 ·exact h
theorem yut {n:Int} {s:List Int} {m:dM} (h:yw m=true):(yE (yec n s m)).2.1.length≤m.2.1.length:=by
 cases hf:m.2.2.1
 ·rw[(yBP (yoS h) ((yFL n s m).trans hf)).1]; exact Nat.zero_le _
 ·have e:yec n s m=m:=by unfold yec; rw[hf]; rfl
  rw[e]; exact yOi h
theorem ykv {q:Int} (h:0≤q):2≤yh q∧yh q<6∧yh q=2+q % 4:=by
 unfold yh;rw[zk1 h,cond_false,Int.tmod_eq_emod_of_nonneg h];have:=Int.emod_nonneg q (show(4:Int)≠0 by omega);have:=Int.emod_lt_of_pos q (show(0:Int)<4 by omega);rw[wr (by omega) (by omega)]; omega
theorem yIu {g:Int} (h:0≤g):0≤g.tmod 2∧g.tmod 2<2:=by
 rw[Int.tmod_eq_emod_of_nonneg h]; omega
theorem yWG {a b:dA} (h:yy a=yy b):a.2.2.2.2.2.2.1=b.2.2.2.2.2.2.1:=congrArg (fun x=>x.2.2.2.2.2.1) h
theorem y2y {k:Int} {V:Int→Int→Int} {a:dA} (h:Ix k V a) (hk:k+1≤60000) (hu:ya (yD a)=false):Ix (k+1) V (yD a):=by
 have c:=h.xc;unfold yT at c;have hgk:=h.xg;have hsk:=h.xs;have e:i64.wrap (a.2.2.2.2.2.2.2.1+1)=a.2.2.2.2.2.2.2.1+1:=wr (by omega) (by omega)
 have hG:Ix (k+1) V (yat a):=by
  obtain⟨⟨c1,c2,c3,c4,c5,c6,c7,c8,c9,c10,c11⟩,g2,g3,g4,g5,g6,g7,g8,g9⟩:=h;refine⟨⟨c1,c2,c3,c4,c5,c6,c7,c8,c9,?_,?_⟩,g2,g3,g4,?_,?_,g7,g8,g9⟩
  ·show 0≤i64.wrap (a.2.2.2.2.2.2.2.1+1); omega
  ·show i64.wrap (a.2.2.2.2.2.2.2.1+1)≤_; omega
  ·show i64.wrap (a.2.2.2.2.2.2.2.1+1)≤_; omega
  ·show a.2.2.2.2.2.1≤k+1; omega
 refine yLP (a:=yat a) (yiQ a) (yyu h.xk) hu (fun i i0 i1=> ?_) hG;have i1':i<a.2.1.1:=i1;obtain⟨d1,_,_⟩:=ydP h.xk i0 i1';rw[y1A hu i0 (by have:=h.xk.1.2; omega)]
 have hn:(yat a).2.2.2.2.2.2.2.1.tmod 2<6:=by
  show(i64.wrap (a.2.2.2.2.2.2.2.1+1)).tmod 2<6;have:=yIu (g:=i64.wrap (a.2.2.2.2.2.2.2.1+1)) (by omega);omega
 exact⟨yH7 (yP2 hn) (yBW (yoS d1)),yut d1⟩
theorem yYL {k:Int} {V:Int→Int→Int} {a:dA} (h:Ix k V a):Ix k V (yU a):=by
 obtain⟨⟨c1,c2,c3,c4,c5,c6,c7,c8,c9,c10,c11⟩,g2,g3,g4,g5,g6,g7,g8,g9⟩:=h;refine⟨⟨c1,c2,c3,c4,c5,c6,⟨?_,?_⟩,⟨Int.le_refl _,c8.2⟩,?_,c10,c11⟩,g2,g3,g4,g5,g6,g7,g8,g9⟩
 ·show 0≤a.2.2.2.2.2.1; omega
 ·show a.2.2.2.2.2.1≤60000; omega
 ·show a.2.2.2.2.2.1≤a.2.2.2.2.2.1+4; omega
theorem yHX {a:dA} (hu:ya (yp a)=false):ya (ye a)=false∧yp a=yD (yU (ye a)):=by
 unfold yp at hu ⊢;cases hd:ya (ye a)
 ·exact⟨rfl,rfl⟩
 ·rw[hd]at hu; exact absurd (hd.symm.trans hu) (by simp)
theorem yP1 {k:Int} {V:Int→Int→Int} {a:dA} (h:Ix k V a) (hk:k+1≤60000) (hu:ya (yp a)=false):Ix (k+1) V (yp a):=by
 obtain⟨h1,h2⟩:=yHX hu;rw[h2]at hu ⊢;exact y2y (yYL (y2z h h1)) hk hu
theorem y5w {a:dA} {r:dN} (hu:ya (yo a r)=false):ya ((List.range a.2.2.1.length).foldl (ya8 r) a)=false∧ya a=false:=by
 have h1:=y2N hu;refine⟨h1,?_⟩;cases hd:ya a
 ·rfl
 ·rw[ykz (one:=ya8 r) (fun _ _ h=>ynU h _ _ _) _ a hd]at h1
  exact(hd.symm.trans h1)
theorem yLS {a:dA} {r:dN} (hu:ya (yo a r)=false) {i:Int} (i0:0≤i) (i1:i<(a.2.2.1.length:Int)):yj (yo a r) i=yE (yec (yh r.1) (yac r) (yj a i)):=by
 obtain⟨h1,h2⟩:=y5w hu;have hl:((List.range a.2.2.1.length).foldl (ya8 r) a).2.2.1.length=a.2.2.1.length:=yja (ylb r) _ a;unfold yo at hu ⊢;rw[yIs hu i0 (by omega)];exact congrArg yE (yCY (y2J r h2) h1 i0 i1)
theorem y5q {k:Int} {V:Int→Int→Int} {a:dA} {r:dN} (h:Ix k V a) (hr:0≤r.1) (hu:ya (yo a r)=false):Ix k V (yo a r)∧ ∀i,0≤i→i<a.2.1.1→(yj (yo a r) i).2.2.1=false→(yj (yo a r) i).2.1= []:=by
 refine⟨yLP (ya2 a r) (ywZ r h.xk) hu (fun i i0 i1=> ?_) h,fun i i0 i1 hf=> ?_⟩
 ·obtain⟨d1,_,_⟩:=ydP h.xk i0 i1
  rw[yLS hu i0 (by have:=h.xk.1.2; omega)];exact⟨yH7 (yP2 (ykv hr).2.1) (yBW (yoS d1)),yut d1⟩
 ·obtain⟨d1,_,_⟩:=ydP h.xk i0 i1
  rw[yLS hu i0 (by have:=h.xk.1.2; omega)]at hf ⊢;rw[(ysy _).2]at hf;exact(yBP (yoS d1) hf).1
theorem y4o {k:Int} {V:Int→Int→Int} {a:dA} (h:Ix k V a) (h1:a.2.2.2.2.2.1<60000) (h2:a.2.2.2.2.2.1-a.2.2.2.2.2.2.1≤3):Ix (k+1) V (yC a):=by
 obtain⟨⟨c1,c2,c3,c4,c5,c6,c7,c8,c9,c10,c11⟩,g2,g3,g4,g5,g6,g7,g8,g9⟩:=h;have e:i64.wrap (a.2.2.2.2.2.1+1)=a.2.2.2.2.2.1+1:=wr (by omega) (by omega);refine⟨⟨c1,c2,c3,c4,c5,c6,c7,⟨?_,?_⟩,?_,c10,c11⟩,g2,g3,g4,?_,?_,g7,g8,g9⟩
 ·show a.2.2.2.2.2.2.1≤i64.wrap (a.2.2.2.2.2.1+1); omega
 ·show i64.wrap (a.2.2.2.2.2.1+1)≤60000; omega
 ·show i64.wrap (a.2.2.2.2.2.1+1)≤a.2.2.2.2.2.2.1+4; omega
 ·show a.2.2.2.2.2.2.2.1≤k+1; omega
 ·show i64.wrap (a.2.2.2.2.2.1+1)≤k+1; omega
def ycc (V:Int→Int→Int) (g:dG) (s:Int) (d:List Int):Int→Int→Int:=fun t i=>bif t==s then ycd (yk g s) g.1 (yay d) d i else V t i
theorem y23 {N p x:Int} {d:List Int} (h:3≤N∧N≤5) (hp:0≤p∧p≤N-1) (hd:(d.length:Int)=N-1):((List.range N.toNat).map (fun(i:Nat)=>ycd p N x d i)).Perm (x::d):=by
 have:N=3∨N=4∨N=5:=by omega
 rcases this with rfl | rfl | rfl
 ·match d,hd with
  | [a,b],_ =>
   have:p=0∨p=1∨p=2:=by omega
   rcases this with rfl | rfl | rfl<;>simp[ycd,nth,List.range_succ,List.perm_iff_count,List.count_cons]<;>(intro z; omega)
  | [],hd=>simp at hd
  | [_],hd=>simp at hd
  | _::_::_::_,hd=>simp only[List.length_cons]at hd; omega
 ·match d,hd with
  | [a,b,c],_ =>
   have:p=0∨p=1∨p=2∨p=3:=by omega
   rcases this with rfl | rfl | rfl | rfl<;>simp[ycd,nth,List.range_succ,List.perm_iff_count,List.count_cons]<;>(intro z; omega)
  | [],hd=>simp at hd
  | [_],hd=>simp at hd
  | [_,_],hd=>simp at hd
  | _::_::_::_::_,hd=>simp only[List.length_cons]at hd; omega
 ·match d,hd with
  | [a,b,c,e],_ =>
   have:p=0∨p=1∨p=2∨p=3∨p=4:=by omega
   rcases this with rfl | rfl | rfl | rfl | rfl<;>simp[ycd,nth,List.range_succ,List.perm_iff_count,List.count_cons]<;>(intro z; omega)
  | [],hd=>simp at hd
  | [_],hd=>simp at hd
  | [_,_],hd=>simp at hd
  | [_,_,_],hd=>simp at hd
  | _::_::_::_::_::_,hd=>simp only[List.length_cons]at hd; omega
theorem ykD (x:Int) (l:List Int):yfm (x::l)=bv x ^^^ yfm l:=by
 have fo: ∀(l:List Int) (v:BitVec 64),l.foldl (fun v x=>v ^^^ bv x) v=v ^^^ yfm l:=by
  intro l
  induction l with
  | nil=>intro v; show v=v ^^^ 0#64; rw[BitVec.xor_zero]
  | cons y t ih =>
   intro v;unfold yfm;rw[List.foldl_cons,List.foldl_cons,ih,ih (0#64 ^^^ bv y),BitVec.zero_xor,BitVec.xor_assoc]
 show l.foldl _ (0#64 ^^^ bv x)=_;rw[fo,BitVec.zero_xor]
theorem y38 {l m:List Int} (h:l.Perm m):yfm l=yfm m:=by
 induction h with
 | nil=>rfl
 | cons x _ ih=>rw[ykD,ykD,ih]
 | swap x y l=>rw[ykD,ykD,ykD,ykD,← BitVec.xor_assoc,BitVec.xor_comm (bv y),BitVec.xor_assoc]
 | trans _ _ h1 h2=>exact h1.trans h2
theorem y37 (d:List Int):yfm (yay d::d)=0#64:=by rw[ykD,yoi,ywQ,BitVec.xor_self]
theorem y22 {N p:Int} {d:List Int} (h:3≤N∧N≤5) (hp:0≤p∧p≤N-1) (hd:(d.length:Int)=N-1):yay ((List.range N.toNat).map (fun(i:Nat)=>ycd p N (yay d) d i))=0:=by
 rw[yoi,y38 (y23 h hp hd),y37]; rfl
theorem yJX {N p i:Int} {d:List Int} (hd:d.all isW=true):isW (ycd p N (yay d) d i)=true:=by
 unfold ycd;cases(i==p)
 ·exact yXv hd
 ·exact yY2 hd
theorem y2u {V:Int→Int→Int} {g:dG} {s:Int} {d:List Int} (h:EvV g V) (hs:yL g s=true) (hl:(d.length:Int)=g.1-1) (hd:d.all isW=true):EvV g (ycc V g s d):=by
 have h1:=yV.1 hs;have hg:=yl.1 h1.1;refine⟨fun t t0 t1=> ?_,fun t i t0 t1 i0 i1=> ?_⟩
 ·unfold ydL ycc
  cases ht:(t==s)
  ·exact h.ev t t0 t1
  ·exact y22 hg.1 (yi5 hs) hl
 ·unfold ycc
  cases ht:(t==s)
  ·exact h.ew t i t0 t1 i0 i1
  ·exact yJX hd
theorem yBS {L B p N s i:Int} {d:List Int} {S:Int} {m:dM} (k:Int) (hk:k≠yA s):(yiP L B p N s d i m).2.2.1=m.2.2.1∧yaZ (yiP L B p N s d i m) k=yaZ m k∧ycb (yiP L B p N s d i m) k=ycb m k:=by
 unfold yiP;cases hl:yaf L B i s m
 ·exact⟨rfl,rfl,rfl⟩
 ·refine⟨(yyY _ _ _).2,?_⟩
  rw[cond_true];cases hc:ybj m (yA s) [ycd p N (yay d) d i]
  ·unfold yZ; rw[hc]; exact⟨rfl,rfl⟩
  ·rw[yxK hc,ynx hc,show(k !=yA s)=true from bne_iff_ne.2 hk,show(yA s==k)=false from beq_eq_false_iff_ne.2 (fun e=>hk e.symm),Bool.and_true]
   exact⟨rfl,rfl⟩
theorem yOj (L B p N s:Int) (d:List Int) (i:Int) (m:dM):(yiP L B p N s d i m).2.1.length≤m.2.1.length+1∧(m.2.2.1=true→yiP L B p N s d i m=m):=by
 unfold yiP;cases hl:yaf L B i s m
 ·exact⟨Nat.le_succ _,fun _=>rfl⟩
 ·simp only[yaf,Bool.and_eq_true,Bool.not_eq_true']at hl
  refine⟨?_,fun h=>by rw[hl.1]at h; cases h⟩;rw[cond_true];unfold yZ;cases ybj m (yA s) [ycd p N (yay d) d i]
  ·exact Nat.le_succ _
  ·show(m.2.1++ [(yA s,[ycd p N (yay d) d i])]).length≤_; rw[List.length_append]; simp only[List.length_cons,List.length_nil]; omega
theorem y43 {k:Int} {V:Int→Int→Int} {a:dA} {s:Int} {d:List Int} (h:Ix k V a) (hs:yL a.2.1 s=true) (hl:(d.length:Int)=a.2.1.1-1) (hd:d.all isW=true)
  (hz: ∀i,0≤i→i<a.2.1.1→(yj a i).2.2.1=false→(yj a i).2.1= []) (hu:ya (yB a s d)=false):Ix k (ycc V a.2.1 s d) (yB a s d):=by
 have hc:=yd7 a s d;have h1:=yV.1 hs;have hg:=yl.1 h1.1;have hlen:=h.xk.1.2;have hdsk: ∀i,0≤i→i<a.2.1.1→yj (yB a s d) i=yiP a.2.2.2.1 a.2.2.2.2.1 (yk a.2.1 s) a.2.1.1 s d i (yj a i):=fun i i0 i1=>yCY (yO3 s d h.xu) hu i0 (by omega)
 refine⟨yB3 hc h.xc,yFM s d h.xk,hu,(yrA hc).trans h.xb,by rw[yrB hc]; exact h.xg,by rw[yfJ hc]; exact h.xs,by rw[yah hc]; exact y2u h.xe hs hl hd,fun i t i0 i1 t0 t1 hh=> ?_,fun i i0 i1=> ?_⟩
 ·rw[yah hc]at i1 t1
  obtain⟨d1,d2,d3⟩:=ydP h.xk i0 i1;unfold yad at hh;rw[ynw hc,yiN hc,hdsk i i0 i1,Bool.and_eq_true,Bool.not_eq_true']at hh;rw[hdsk i i0 i1];have hda:=yiO (s:=s) h1.2.1 (by omega);unfold ycc;by_cases ht:t=s
  ·subst ht
   rw[beq_self_eq_true,cond_true]
   have hlv:yaf a.2.2.2.1 a.2.2.2.2.1 i t (yj a i)=true:=by
    have:=hh.1;unfold yaf at this ⊢;rw[(yBS (S:=0) (-1) (by omega)).1]at this;exact this
   have hf:(yj a i).2.2.1=false:=by
    simp only[yaf,Bool.and_eq_true,Bool.not_eq_true']at hlv; exact hlv.1
   unfold yiP;rw[hlv,cond_true,ynx (yqk d1 hf (by rw[hda]; exact zj4.2 (by omega)) (yyI.2 ⟨by simp,fun x hx=> ?_⟩) (by rw[hz i i0 i1 hf]; decide)),hda,beq_self_eq_true]; rfl;rw[List.mem_singleton.1 hx];exact yoT.1 (yJX hd)
  ·rw[show(t==s)=false from beq_eq_false_iff_ne.2 ht]
   obtain⟨e1,e2,e3⟩:=yBS (L:=a.2.2.2.1) (B:=a.2.2.2.2.1) (p:=yk a.2.1 s) (N:=a.2.1.1) (s:=s) (i:=i) (d:=d) (S:=0) (m:=yj a i) (t+6) (by omega);rw[e3];refine h.xv i t i0 i1 t0 t1 ?_;unfold yad;rw[e2]at hh;have h2:=hh.1;unfold yaf at h2 ⊢;rw[e1]at h2;rw[h2,hh.2]; rfl
 ·rw[yah hc]at i1
  rw[ynw hc,yiN hc,hdsk i i0 i1];obtain⟨g1,g2⟩:=yOj a.2.2.2.1 a.2.2.2.2.1 (yk a.2.1 s) a.2.1.1 s d i (yj a i);have c:=h.xc;unfold yT at c;cases hf:(yj a i).2.2.1
  ·rw[hz i i0 i1 hf]at g1
   simp only[List.length_nil]at g1;cases(i==a.2.2.2.1)
   ·simp only[cond_false]; omega
   ·simp only[cond_true]; omega
  ·rw[g2 hf]
   exact h.xn i i0 i1
theorem y3M {k:Int} {V:Int→Int→Int} {a:dA} (h:Ix k V a) (hk:k+1≤60000) (hu:ya (yv a)=false):Ix (k+1) V (yv a)∧(yv a).2.2.2.2.2.1=a.2.2.2.2.2.1∧(yv a).2.2.2.2.2.1-(yv a).2.2.2.2.2.2.1≤3:=by
 have c:=h.xc;unfold yT at c
 have e0:yv a=bif leb 4 (a.2.2.2.2.2.1-a.2.2.2.2.2.2.1)then yp a else a:=by
  unfold yv;rw[wr (by omega) (by omega)]
 rw[e0]at hu ⊢;cases h4:leb 4 (a.2.2.2.2.2.1-a.2.2.2.2.2.2.1)
 ·refine⟨yWT h (by omega),rfl,?_⟩
  have: ¬(4≤a.2.2.2.2.2.1-a.2.2.2.2.2.2.1):=fun g=>by rw[zk0 g]at h4; cases h4
  show a.2.2.2.2.2.1-a.2.2.2.2.2.2.1≤3; omega
 ·rw[h4]at hu
  simp only[cond_true]at hu ⊢;have hi:=yP1 h hk hu;obtain⟨_,h2⟩:=yHX hu;have e:=yiQ (yU (ye a));have e1:(yp a).2.2.2.2.2.1=a.2.2.2.2.2.1:=by rw[h2]; exact(yfJ e).trans (show(yat (yU (ye a))).2.2.2.2.2.1=_ from yfJ (a:=ye a) (b:=a) (yaF a))
  have e2:(yp a).2.2.2.2.2.2.1=a.2.2.2.2.2.1:=by rw[h2]; exact(yWG e).trans (show(yat (yU (ye a))).2.2.2.2.2.2.1=_ from yfJ (a:=ye a) (b:=a) (yaF a))
  exact⟨hi,e1,by omega⟩
theorem y4q {k:Int} {V:Int→Int→Int} {a:dA} {s:Int} {d:List Int} (h:Ix k V a) (hs:yL a.2.1 s=true) (hl:(d.length:Int)=a.2.1.1-1) (hd:d.all isW=true) (hq:a.2.2.2.2.2.1<60000) (hk:k+1≤60000)
  (hu:ya (yz a s d).2=false):Ix (k+2) (ycc V a.2.1 s d) (yz a s d).2∧(yz a s d).1=0:=by
 unfold yz at hu ⊢;cases hc:ya (yv a)
 ·obtain⟨h1,h2,h3⟩:=y3M h hk hc
  have eg:(yv a).2.1=a.2.1:=yWF a;rw[hc]at hu;simp only[cond_false]at hu ⊢;have c:=h.xc;unfold yT at c;cases hr:ya (yo (yv a) ((yv a).2.2.2.2.2.1,s,d))
  ·rw[hr]at hu
   simp only[cond_false]at hu ⊢;obtain⟨h4,h5⟩:=y5q (r:=((yv a).2.2.2.2.2.1,s,d)) h1 (by show 0≤(yv a).2.2.2.2.2.1; omega) hr;have e1:=yfJ (ya2 (yv a) ((yv a).2.2.2.2.2.1,s,d));have e2:=yWG (ya2 (yv a) ((yv a).2.2.2.2.2.1,s,d));have e3:=(yah (ya2 (yv a) ((yv a).2.2.2.2.2.1,s,d))).trans eg;rw[eg]at h5;generalize yo (yv a) ((yv a).2.2.2.2.2.1,s,d)=R at h4 h5 e1 e2 e3 hu ⊢;have h6:=y4o h4 (by omega) (by omega);have e4:(yC R).2.1=a.2.1:=e3;have h7:=y43 (s:=s) (d:=d) h6 (by rw[e4]; exact hs) (by rw[e4]; exact hl) hd (fun i i0 i1 hf=>h5 i i0 (by rw[e4]at i1; exact i1) hf) hu;rw[hu,e4]at *;exact⟨yWT h7 (by omega),rfl⟩
  ·rw[hr]at hu
   exact absurd (hr.symm.trans hu) (by simp)
 ·rw[hc]at hu
  exact absurd (hc.symm.trans hu) (by simp)
theorem yOm {k:Int} {V:Int→Int→Int} {a:dA} {l:List dW} (h:Ix k V a) (hd:yaT a.2.1 l=true):Ix k V (yxq a l):=by
 obtain⟨⟨c1,c2,c3,c4,c5,c6,c7,c8,c9,c10,c11⟩,g2,g3,g4,g5,g6,g7,g8,g9⟩:=h;exact⟨⟨c1,c2,hd,c4,c5,c6,c7,c8,c9,c10,c11⟩,g2,g3,g4,g5,g6,g7,g8,g9⟩
theorem y2b {a:dA} (s:Int) (h:ya a=true):(yaR a s).2=a:=by
 unfold yaR;cases ltb (yam a.2.2.2.2.2.2.2.2.1 s) 0
 ·cases hc:(yP a s (nth a.2.2.2.2.2.2.2.2.1 (yam a.2.2.2.2.2.2.2.2.1 s) (0,[])).2 !=0)
  ·have:=(yxU (bne_eq_false_iff_eq.1 hc)).2.2.2.1
   rw[h]at this; cases this
  ·rfl
 ·rfl
theorem yYq: ∀(n i:Nat) {a:dA},ya a=true→(goE ylX (fun b=>((0:Int),b)) n i a).2=a
 | 0,_,_,_=>rfl
 | n+1,i,a,h=>by
  unfold goE ylX;have e:=y2b (nth a.2.2.2.2.2.2.2.2.1 0 (0,[])).1 h;cases((yaR a (nth a.2.2.2.2.2.2.2.2.1 0 (0,[])).1).1 !=0)
  ·simp only[cond_false,e]
   exact yYq n (i+1) h
  ·exact e
theorem y5r {k:Int} {V:Int→Int→Int} {a:dA} {b n:Int} (h:Ix k V a) (hb:yeP a.2.1 b=true) (hn:isW n=true):Ix k V (yqz a b n).2:=by
 unfold yqz;cases hs:(ybI a (yY a.2.1 b)).2
 ·exact h
 ·have hstr:=yGF hb
  have hl:=yAl (yD4 h) hstr hs;refine yOm h (yYC h.xc.2.2.1 ⟨(yV.1 hstr).2,by rw[List.length_set]; exact hl,yYn ?_ hn⟩);unfold ybI;cases hk:leb 0 (yam a.2.2.2.2.2.2.2.2.1 (yY a.2.1 b))
  ·rw[h.xb]; exact yYA _ _
  ·have:=(ynz (d:=((0:Int),([]:List Int))) hk).1
   exact yB4 (P:=fun e:dW=>e.2.all isW=true) this (fun e he=>((yxX.1 h.xc.2.2.1).1 e he).2.2)
theorem yJY {a:dA} {m i:Int} {x:dM} (l:Int) (t:Int×Int×Int×Int×List dW×Int×Bool×Bool) (hm:inb m a.2.2.1.length=true) (hi:0≤i):yj (a.1,a.2.1,a.2.2.1.set m.toNat x,l,t) i=bif m==i then x else yj a i:=yEc hm hi
theorem y3E {a:dA} {m:Int} (hl:a.2.2.2.1= -1∨a.2.2.2.1=m) (hm:inb m a.2.2.1.length=true) (i s:Int) (i0:0≤i) (s0:0≤s) (hh:yaf m 0 i s (yj (yau a m) i)=true):(i !=a.2.2.2.1||ltb s a.2.2.2.2.1)=true∧i≠m∧yj (yau a m) i=yj a i:=by
 have e:yj (yau a m) i=bif m==i then yft (yj a m)else yj a i:=yJY m _ hm i0;by_cases hi:m=i
 ·subst hi
  rw[e,beq_self_eq_true]at hh;simp only[yaf,Bool.and_eq_true,Bool.not_eq_true',cond_true]at hh;have:=hh.1;cases this
 ·rw[show(m==i)=false from beq_eq_false_iff_ne.2 hi]at e
  refine⟨?_,fun e=>hi e.symm,e⟩;rw[show(i !=a.2.2.2.1)=true from bne_iff_ne.2 (by omega)]; rfl
theorem y2e {k m:Int} {V:Int→Int→Int} {a:dA} (h:Ix k V a) (hl:a.2.2.2.1= -1∨a.2.2.2.1=m) (hm:inb m a.2.2.1.length=true):Ix k V (yau a m):=by
 have hmi:=zj4.1 hm
 have hv:yHT V (yau a m):=yLD (a:=a) (b:=yau a m) rfl (fun i s i0 i1 s0 hh=>by
  obtain⟨h1,h2,h3⟩:=y3E hl hm i s i0 s0 hh;rw[h3]
  exact⟨h1,yFO _ _⟩) h.xv
 have hn: ∀i,0≤i→i<a.2.1.1→((yj (yau a m) i).2.1.length:Int)≤1+(bif i==m then 0 else 0):=fun i i0 i1=>by
  have e:yj (yau a m) i=bif m==i then yft (yj a m)else yj a i:=yJY m _ hm i0;rw[e];by_cases hi:m=i
  ·rw[show(m==i)=true from beq_iff_eq.2 hi]
   show(([]:List dW).length:Int)≤_;rw[List.length_nil];cases(i==m)<;>decide
  ·rw[show(m==i)=false from beq_eq_false_iff_ne.2 hi,cond_false]
   have:=h.xn i i0 i1;rw[show(i==a.2.2.2.1)=false from beq_eq_false_iff_ne.2 (by omega)]at this;simp only[cond_false]at this;cases(i==m)<;>simp only[cond_true,cond_false]<;>omega
 obtain⟨⟨c1,c2,c3,c4,c5,c6,c7,c8,c9,c10,c11⟩,⟨⟨g1,g2⟩,g3⟩,f,b,t,t2,t3,_,_⟩:=h;refine⟨⟨c1,c2,c3,⟨?_,?_⟩,⟨Int.le_refl _,by show(0:Int)≤a.2.1.2; omega⟩,fun e=>rfl,c7,c8,c9,c10,c11⟩,⟨⟨?_,?_⟩,g3⟩,f,b,t,t2,t3,hv,hn⟩
 ·show -1≤m; omega
 ·show m≤a.2.1.1-1; omega
 ·show yFP m a.2.2.2.2.2.2.2.2.2.2.2 a.2.1.2 (a.2.2.1.set m.toNat (yft (nth a.2.2.1 m yc)))
  refine ynB (fun i hi=> ?_) (fun hi=> ?_)
  ·obtain⟨e1,e2,e3⟩:=g1 i hi
   refine⟨e1,e2,fun e=> ?_⟩;rcases e3 e with e | e
   ·exact .inl (by omega)
   ·exact .inr e
  ·have:=g1 m.toNat hi
   rw[Int.toNat_of_nonneg hmi.1]at this;exact⟨yWH this.1,this.2.1,fun _=> .inl (Int.toNat_of_nonneg hmi.1)⟩
 ·show((a.2.2.1.set m.toNat (yft (nth a.2.2.1 m yc))).length:Int)=a.2.1.1
  rw[List.length_set]; exact g2
theorem y4Z {k m:Int} {V:Int→Int→Int} {a:dA} (h:Ix k V a) (hl:a.2.2.2.1= -1∨a.2.2.2.1=m) (hk:k+1≤60000):yhK a m=yD (yau a m):=by
 have:=h.xg;unfold yhK;rw[h.xu,h.xb,zkw (show a.2.2.2.2.2.2.2.1<60000 by omega)];rcases hl with e | e
 ·rw[show(a.2.2.2.1== -1)=true from beq_iff_eq.2 e]; rfl
 ·rw[show(a.2.2.2.1==m)=true from beq_iff_eq.2 e,Bool.or_true]; rfl
theorem ysC {S:Int} (h:1≤S∧S≤8):ya5 (6+S)=(List.replicate (6+S).toNat [],[],false,[]):=by
 unfold ya5;rw[zk0 (show 1≤6+S by omega),zk0 (show 6+S≤20 by omega)]; rfl
theorem y2f {k:Int} {V:Int→Int→Int} {a:dA} (h:Ix k V a) (hm:inb a.2.2.2.1 a.2.2.1.length=true):Ix k V (yaa a):=by
 have hg:=yl.1 h.xc.1;have e: ∀i,0≤i→yj (yaa a) i=bif a.2.2.2.1==i then ya5 (6+a.2.1.2)else yj a i:=fun i i0=>yJY _ _ hm i0
 have hv:yHT V (yaa a):=yLD (a:=a) (b:=yaa a) rfl (fun i s i0 i1 s0 hh=>by
  have hh:yaf a.2.2.2.1 0 i s (yj (yaa a) i)=true:=hh;rw[e i i0]at hh ⊢;simp only[yaf,Bool.and_eq_true,Bool.or_eq_true,bne_iff_ne,ne_eq,zj8]at hh;have hne:i≠a.2.2.2.1:=hh.2.resolve_right (by omega);rw[show(a.2.2.2.1==i)=false from beq_eq_false_iff_ne.2 (fun e=>hne e.symm),show(i !=a.2.2.2.1)=true from bne_iff_ne.2 hne]
  exact⟨rfl,yFO _ _⟩) h.xv
 have hn: ∀i,0≤i→i<a.2.1.1→((yj (yaa a) i).2.1.length:Int)≤1+(bif i==a.2.2.2.1 then 0 else 0):=fun i i0 i1=>by
  rw[e i i0];by_cases hi:a.2.2.2.1=i
  ·rw[show(a.2.2.2.1==i)=true from beq_iff_eq.2 hi,cond_true,ysC hg.2]
   show(([]:List dW).length:Int)≤_;rw[List.length_nil];cases(i==a.2.2.2.1)<;>decide
  ·rw[show(a.2.2.2.1==i)=false from beq_eq_false_iff_ne.2 hi,cond_false]
   have:=h.xn i i0 i1;rw[show(i==a.2.2.2.1)=false from beq_eq_false_iff_ne.2 (fun e=>hi e.symm)]at this ⊢;exact this
 have hmi:=zj4.1 hm;obtain⟨⟨c1,c2,c3,c4,c5,c6,c7,c8,c9,c10,c11⟩,⟨⟨g1,g2⟩,g3⟩,f,b,t,t2,t3,_,_⟩:=h;refine⟨⟨c1,c2,c3,c4,⟨Int.le_refl _,by show(0:Int)≤a.2.1.2; omega⟩,fun e=>rfl,c7,c8,c9,c10,c11⟩,⟨⟨ynB g1 (fun hi=>⟨yKG (by omega) (by omega),?_,fun e=> ?_⟩),?_⟩,g3⟩,f,b,t,t2,t3,hv,hn⟩
 ·rw[ysC hg.2]
  show((List.replicate (6+a.2.1.2).toNat ([]:List Int)).length:Int)=6+a.2.1.2;rw[List.length_replicate]; omega
 ·rw[ysC hg.2]at e
  cases e
 ·show((a.2.2.1.set a.2.2.2.1.toNat (ya5 (6+a.2.1.2))).length:Int)=a.2.1.1
  rw[List.length_set]; exact g2
theorem y3o (S:Int) (m:dM) (n:Int):yCD S m (spoil m n):=by
 unfold spoil;cases(yw m&&(inb n m.1.length&& !(m.2.2.2.any (· ==n))))
 ·exact yFO _ _
 ·refine fun h=>⟨h,fun k k0 k1 hb=>⟨?_,rfl⟩⟩
  have hb:(yuC m.2.2.2 n).any (· ==k)=false:=hb;show m.2.2.2.any (· ==k)=false;rw[List.any_eq_false]at hb ⊢;intro x hx hxk;have hxk':=beq_iff_eq.1 hxk;refine hb x ?_ hxk;unfold yuC;rw[List.mem_append,List.mem_cons,List.mem_filter,List.mem_filter];rcases Int.lt_trichotomy x n with h1 | h1 | h1
  ·exact .inl ⟨hx,zkw h1⟩
  ·exact .inr (.inl h1)
  ·exact .inr (.inr ⟨hx,zkw h1⟩)
theorem y2n (m:dM) (n:Int):(spoil m n).2.1=m.2.1:=by
 unfold spoil;cases(yw m&&(inb n m.1.length&& !(m.2.2.2.any (· ==n))))<;>rfl
theorem y4p {k m n:Int} {V:Int→Int→Int} {a:dA} (h:Ix k V a) (hm:inb m a.2.2.1.length=true):Ix k V (ybp a m (spoil (nth a.2.2.1 m yc) n)) :=
 yLP (a:=a) (b:=ybp a m (spoil (nth a.2.2.1 m yc) n)) rfl (yqt h.xk hm (fun g=>⟨yRW n g.1,by rw[(yn2 _ _).1]; exact g.2.1,by rw[(yn2 _ _).2]; exact g.2.2⟩)) h.xu (fun i i0 i1=>by
  rw[yLO hm i0];by_cases hi:m=i
  ·subst hi
   rw[beq_self_eq_true,cond_true];exact⟨y3o _ _ _,by rw[y2n]; exact Nat.le_refl _⟩
  ·rw[show(m==i)=false from beq_eq_false_iff_ne.2 hi]
   exact⟨yFO _ _,Nat.le_refl _⟩) h
theorem y44 {k:Int} {V:Int→Int→Int} {a:dA} (h:Ix k V a) (hl:inb a.2.2.2.1 a.2.2.1.length=true) (hf:(nth a.2.2.1 a.2.2.2.1 yc).2.2.1=false) (hb:a.2.2.2.2.1<a.2.1.2) (hu:ya (yfC a).2=false):Ix k V (yfC a).2:=by
 have hmi:=zj4.1 hl;have hlen:=h.xk.1.2;have hg:=yl.1 h.xc.1;have c:=h.xc;unfold yT at c;have hb0:0≤a.2.2.2.2.1:=by omega
 have hda:=yiO hb0 (by omega);have e:=yhq a a.2.2.2.1 (yA a.2.2.2.2.1) [nth (yS a a.2.2.2.2.1).1 a.2.2.2.1 0];have hkp:yI (yaE a):=ywY h.xk hl;have hd:=yB5 (yA a.2.2.2.2.1) [nth (yS a a.2.2.2.2.1).1 a.2.2.2.1 0] h.xu hl;have e1:(yaE a).2.2.2.2.1=a.2.2.2.2.1:=yiN e;have e2:(yaE a).2.1=a.2.1:=yah e;have e3:(yaE a).2.2.2.1=a.2.2.2.1:=ynw e;unfold yfC at hu ⊢;cases hw:(yS a a.2.2.2.2.1).2
 ·exact h
 ·rw[hw]at hu
  have hwv:=yVT h.xc.1 h.xk h.xe h.xv hb0 hb
  have hw1:(yS a a.2.2.2.2.1).1=ydL V a.2.1.1 a.2.2.2.2.1:=by
   rw[hwv]at hw ⊢;cases hm:yeQ (fun(i:Nat)=>yad a a.2.2.2.2.1 i) a.2.1.1.toNat
   ·rfl
   ·rw[hm]at hw; cases hw
  have hx:nth (yS a a.2.2.2.2.1).1 a.2.2.2.1 0=V a.2.2.2.2.1 a.2.2.2.1:=by rw[hw1]; exact yR0 V (by omega) (by omega)
  rw[hx]at hd e;have hst:yaE a=ybq a a.2.2.2.1 (yA a.2.2.2.2.1) [V a.2.2.2.2.1 a.2.2.2.1]:=by unfold yaE; rw[hx]
  have hcc:yy (yaE a)=yy a:=by rw[hst]; exact e
  rw[← hst]at hd;generalize yaE a=R at *;simp only[cond_true]at hu ⊢;cases hr:ya R
  ·rw[hr]at hu
   obtain⟨_,_,⟨_,hdd⟩ | ⟨hdd,_⟩⟩:=hd
   ·obtain⟨d1,d2,d3⟩:=ydP h.xk (i:=a.2.2.2.1) (by omega) (by omega)
    have hf':(yj a a.2.2.2.1).2.2.1=false:=hf;have hxw:=h.xe.ew a.2.2.2.2.1 a.2.2.2.1 hb0 hb (by omega) (by omega);have hcn:=h.xn a.2.2.2.1 (by omega) (by omega);rw[beq_self_eq_true,cond_true]at hcn;have hcw:ybj (yj a a.2.2.2.1) (a.2.2.2.2.1+6) [V a.2.2.2.2.1 a.2.2.2.1]=true:=yqk d1 hf' (zj4.2 (by omega)) (yyI.2 ⟨by simp,fun x hx=>by rw[List.mem_singleton.1 hx]; exact yoT.1 hxw⟩) (by omega);have e4:i64.wrap (R.2.2.2.2.1+1)=a.2.2.2.2.1+1:=by rw[e1]; exact wr (by omega) (by omega)
    have hRL:yj R a.2.2.2.1=(yZ (yj a a.2.2.2.1) (a.2.2.2.2.1+6) [V a.2.2.2.2.1 a.2.2.2.1]).1:=by
     rw[hdd _ (by omega),beq_self_eq_true,cond_true,hda];unfold yec;rw[hf']; rfl
    have hRo: ∀i,0≤i→i≠a.2.2.2.1→yj R i=yj a i:=fun i i0 hi=>by rw[hdd i i0,show(a.2.2.2.1==i)=false from beq_eq_false_iff_ne.2 (fun e=>hi e.symm)]; rfl
    have hco:=yB3 hcc h.xc;refine⟨?_,hkp,hr,(yrA hcc).trans h.xb,by show R.2.2.2.2.2.2.2.1≤k; rw[yrB hcc]; exact h.xg,by show R.2.2.2.2.2.1≤k; rw[yfJ hcc]; exact h.xs,by show EvV R.2.1 V; rw[e2]; exact h.xe,?_,?_⟩
    ·obtain⟨c1,c2,c3,c4,c5,c6,c7,c8,c9,c10,c11⟩:=hco
     refine⟨c1,c2,c3,c4,⟨?_,?_⟩,fun e=> ?_,c7,c8,c9,c10,c11⟩
     ·show 0≤i64.wrap (R.2.2.2.2.1+1); omega
     ·show i64.wrap (R.2.2.2.2.1+1)≤R.2.1.2; rw[e4,e2]; omega
     ·have:R.2.2.2.1= -1:=e
      omega
    ·intro i t i0 i1 t0 t1 hh
     have i1:i<R.2.1.1:=i1;have t1:t<R.2.1.2:=t1;rw[e2]at i1 t1;unfold yad at hh;have hh:(yaf R.2.2.2.1 (i64.wrap (R.2.2.2.2.1+1)) i t (yj R i)&& !(yaZ (yj R i) (t+6)))=true:=hh;show ycb (yj R i) (t+6)= [V t i];rw[e3,e4]at hh;by_cases hi:i=a.2.2.2.1
     ·subst hi
      rw[hRL]at hh ⊢;rw[ynx hcw];by_cases ht:a.2.2.2.2.1+6=t+6
      ·rw[show(a.2.2.2.2.1+6==t+6)=true from beq_iff_eq.2 ht,show a.2.2.2.2.1=t by omega]; rfl
      ·rw[show(a.2.2.2.2.1+6==t+6)=false from beq_eq_false_iff_ne.2 ht,cond_false]
       refine h.xv _ t i0 i1 t0 t1 ?_;rw[yxK hcw,show(t+6 !=a.2.2.2.2.1+6)=true from bne_iff_ne.2 (fun e=>ht e.symm),Bool.and_true,Bool.and_eq_true]at hh;have h2:=hh.1;simp only[yaf,Bool.and_eq_true,Bool.or_eq_true,bne_self_eq_false,Bool.false_eq_true,false_or,zj8]at h2;unfold yad yaf;rw[hf',hh.2,zkw (show t<a.2.2.2.2.1 by omega),Bool.or_true]; rfl
     ·rw[hRo i i0 hi]at hh ⊢
      refine h.xv i t i0 i1 t0 t1 ?_;rw[Bool.and_eq_true]at hh;have h2:=hh.1;simp only[yaf,Bool.and_eq_true]at h2;unfold yad yaf;rw[h2.1,hh.2,show(i !=a.2.2.2.1)=true from bne_iff_ne.2 hi]; rfl
    ·intro i i0 i1
     have i1:i<R.2.1.1:=i1;rw[e2]at i1;show((yj R i).2.1.length:Int)≤1+(bif i==R.2.2.2.1 then i64.wrap (R.2.2.2.2.1+1)else 0);rw[e3,e4];by_cases hi:i=a.2.2.2.1
     ·subst hi
      rw[hRL,yIA hcw,beq_self_eq_true,cond_true];show(((yj a a.2.2.2.1).2.1++ [(a.2.2.2.2.1+6,[V a.2.2.2.2.1 a.2.2.2.1])]).length:Int)≤_;rw[List.length_append];simp only[List.length_cons,List.length_nil];omega
     ·rw[hRo i i0 hi,show(i==a.2.2.2.1)=false from beq_eq_false_iff_ne.2 hi]
      have:=h.xn i i0 i1;rw[show(i==a.2.2.2.1)=false from beq_eq_false_iff_ne.2 hi]at this;exact this
   ·rw[hr]at hdd; cases hdd
  ·rw[hr]at hu
   exact absurd (hr.symm.trans hu) (by simp)
theorem yOp {id i:Int} {g:dG} (hg:yd g=true): ∀n:Nat,n≤g.2.toNat→ ∀k:Int,0≤k→nth ((List.range n).foldl yo0 (yi2 id g i)).1 k []=bif leb 6 k&&ltb k (6+n)then[0]else bif k==0 then ym (y1C id g i)else[]:=by
 have hge:=yl.1 hg;intro n
 induction n with
 | zero =>
  intro _ k hk;show nth (yi2 id g i).1 k []=_;unfold yi2;rw[ysC hge.2];have h0:inb 0 (List.replicate (6+g.2).toNat ([]:List Int)).length=true:=by rw[List.length_replicate]; exact zj4.2 (by omega)
  have:=yEc (x:=ym (y1C id g i)) (d:=([]:List Int)) h0 hk;rw[show(0:Int).toNat=0 from rfl]at this;rw[this]
  have e1:(leb 6 k&&ltb k (6+((0:Nat):Int)))=false:=by
   cases h:(leb 6 k&&ltb k (6+((0:Nat):Int)))
   ·rfl
   ·rw[Bool.and_eq_true,zj5,zj8]at h; omega
  rw[e1,cond_false];by_cases h:k=0
  ·rw[show((0:Int)==k)=true from beq_iff_eq.2 h.symm,show(k==0)=true from beq_iff_eq.2 h]; rfl
  ·rw[show((0:Int)==k)=false from beq_eq_false_iff_ne.2 (fun e=>h e.symm),show(k==0)=false from beq_eq_false_iff_ne.2 h,cond_false,cond_false]
   unfold nth;rw[List.getD_eq_getElem?_getD,List.getElem?_replicate];split<;>rfl
 | succ n ih =>
  intro hn k hk;rw[List.range_succ,List.foldl_append,List.foldl_cons,List.foldl_nil]
  have hlen:((List.range n).foldl yo0 (yi2 id g i)).1.length=(6+g.2).toNat:=by
   rw[yOo];show((ya5 (6+g.2)).1.set 0 _).length=_;rw[List.length_set,ysC hge.2];show(List.replicate (6+g.2).toNat ([]:List Int)).length=_;rw[List.length_replicate]
  have h1:=ih (by omega) k hk;generalize (List.range n).foldl yo0 (yi2 id g i)=M at h1 hlen ⊢;show nth (M.1.set (n+6) [0]) k []=_;have:=yEc (l:=M.1) (i:=((n+6:Nat):Int)) (x:= [0]) (d:=([]:List Int)) (zkP (by omega)) hk;rw[Int.toNat_natCast]at this;rw[this,h1];by_cases h:((n+6:Nat):Int)=k
  ·rw[show(((n+6:Nat):Int)==k)=true from beq_iff_eq.2 h,zk0 (show 6≤k by omega),zkw (show k<6+((n+1:Nat):Int)by omega)]; rfl
  ·rw[show(((n+6:Nat):Int)==k)=false from beq_eq_false_iff_ne.2 h,cond_false,show ltb k (6+((n+1:Nat):Int))=ltb k (6+(n:Int))by rw[Bool.eq_iff_iff,zj8,zj8]; omega]
theorem y1l (g:dG):EvV g (fun _ _=>0):=by
 refine⟨fun s _ _=> ?_,fun _ _ _ _ _ _=>rfl⟩;unfold ydL;rw[yoi]
 have: ∀l:List Nat,yfm (l.map (fun(_:Nat)=>(0:Int)))=0#64:=by
  intro l
  induction l with
  | nil=>rfl
  | cons x t ih=>rw[List.map_cons,ykD,ih]; decide
 rw[this]; rfl
theorem y3R {id:Int} {g:dG} (hg:yd g=true) (h1:1≤id) (h2:id≤60000) {i:Int} (i0:0≤i) (i1:i<g.1):yj (yer id g) i=yQ id g i:=by
 rw[yE1 hg h1 h2];show nth ((List.range g.1.toNat).map (fun(i:Nat)=>yQ id g i)) i yc=_;unfold nth;rw[zkH (by rw[List.length_map,List.length_range]; omega),List.getElem_map,List.getElem_range,Int.toNat_of_nonneg i0]
theorem y5p {id:Int} {g:dG} (hg:yd g=true) (h1:1≤id) (h2:id≤60000):Ix 0 (fun _ _=>0) (yer id g):=by
 have hw:=y1X hg h1 h2;have hge:=yl.1 hg;have e:=yE1 hg h1 h2;have eg:(yer id g).2.1=g:=by rw[e]
 have ed: ∀i,0≤i→i<g.1→yj (yer id g) i=yQ id g i:=fun i i0 i1=>y3R hg h1 h2 i0 i1
 refine⟨hw.1,hw.2.1,hw.2.2.1.1,hw.2.2.2.1,hw.2.2.2.2,by rw[e]; exact Int.le_refl _,y1l _,fun i s i0 i1 s0 s1 _=> ?_,fun i i0 i1=> ?_⟩
 ·rw[eg]at i1 s1
  rw[ed i i0 i1];obtain⟨_,_,n3⟩:=yo1 id i hg;unfold ycb;rw[n3];show nth (yQ id g i).1 (s+6) []=_;unfold yQ;rw[yOp hg g.2.toNat (Nat.le_refl _) (s+6) (by omega),zk0 (show 6≤s+6 by omega),zkw (show s+6<6+(g.2.toNat:Int)by omega)]; rfl
 ·rw[eg]at i1
  rw[ed i i0 i1,(yo1 id i hg).2.2,e];show((([]:List dW).length:Nat):Int)≤1+(bif i== -1 then 0 else 0);rw[List.length_nil];cases(i== -1)<;>decide
def ybx (a:dA) (s:Int):Nat:=ym1 (fun(i:Nat)=>yad a s i) a.2.1.1.toNat
theorem y1q {k:Int} {V:Int→Int→Int} {a:dA} {s:Int} (h:Ix k V a) (s0:0≤s) (s1:s<a.2.1.2):yS a s=bif decide (ybx a s<2)then(ydL V a.2.1.1 s,true)else([],false):=by
 rw[yVT h.xc.1 h.xk h.xe h.xv s0 s1,(yTT _ _).2];show(bif decide (2≤ybx a s)then([],false)else(ydL V a.2.1.1 s,true))=_;by_cases h2:ybx a s<2
 ·rw[decide_eq_true h2,decide_eq_false (by omega)]; rfl
 ·rw[decide_eq_false h2,decide_eq_true (by omega)]; rfl
def yey (V:Int→Int→Int) (g:dG) (s:Int):List Int:=(List.range (g.1-1).toNat).map (fun(i:Nat)=>nth (ydL V g.1 s) (yaQ g s i) 0)
theorem y1p {k:Int} {V:Int→Int→Int} {a:dA} {s:Int} (h:Ix k V a) (s0:0≤s) (s1:s<a.2.1.2):yL a.2.1 s=true:=yV.2 ⟨h.xc.1,s0,by omega⟩
theorem y29 {k:Int} {V:Int→Int→Int} {a:dA} {s:Int} (h:Ix k V a) (s0:0≤s) (s1:s<a.2.1.2):ydG a s=bif decide (ybx a s<2)then(yey V a.2.1 s,true)else([],false):=by
 unfold ydG yq6;rw[yD4 h,h.xb,y1p h s0 s1,y1q h s0 s1];cases decide (ybx a s<2)<;>rfl
theorem yxD (V:Int→Int→Int) (g:dG) (s:Int):(yey V g s).length=(g.1-1).toNat:=by unfold yey; rw[List.length_map,List.length_range]
def yeM (id:Int) (g:dG) (G T L B i:Int):dS:=(id,G,i,g.1,g.2,T,L,B)
def ywv (id n:Int) (v:List Int) (s:dS):Prop:=yeB v=(s,true)∧s.1=id∧s.2.1.tmod 2=n
def yfH (id:Int) (f:Int→List Int):Prop:= ∃n s,(n=0∨n=1)∧ywv id n (f n) s
structure Wsup (id:Int) (g:dG) (G T L B Lf Bf:Int) (f:Int→Int→List Int) (fl:Int→Bool):Prop where
 u0: ∀i,0≤i→i<g.1→yH (yeM id g G T L B i)=true
 u1: ∀i n s,0≤i→i<g.1→fl i=false→(n=0∨n=1)→ywv id n (f i n) s→s.2.2.1=i∧(s.2.1<G∨s=yeM id g G T L B i)
 u2: ∀i,0≤i→i<g.1→i≠Lf→fl i=false∧yfH id (f i)
 u3: ∃i,0≤i∧i<g.1∧fl i=false∧f i (G.tmod 2)=ym (yeM id g G T L B i)
 u4:(Lf=L∧Bf=B∧(Lf= -1∨(fl Lf=false∧yfH id (f Lf))))∨(0≤Lf∧Lf<g.1∧ ¬(fl Lf=false∧yfH id (f Lf))∧(L= -1∨L=Lf)∧Bf=0)
structure Wdat (g:dG) (T Q:Int) (R:Int→Int×List Int) (V:Int→Int→Int) (Lf Bf:Int) (f:Int→Int→List Int) (fl:Int→Bool) (bd:Int→Int→Bool):Prop where
 e:EvV g V
 q:0≤T∧T≤Q∧Q≤T+4∧Q≤60000
 d: ∀i s,0≤i→i<g.1→0≤s→s<g.2→fl i=false→(i≠Lf∨s<Bf)→bd i (s+6)=false→(∀q,T≤q→q<Q→(R q).1≠s)→f i (s+6)= [V s i]
 r: ∀q,T≤q→q<Q→ ∃i,0≤i∧i<g.1∧fl i=false∧f i (yh q)=yac (q,R q)
 h: ∀i n r,0≤i→i<g.1→fl i=false→2≤n→n<6→yaB (f i n)=(r,true)→r.1<Q∧(T≤r.1→r.2=R r.1)
 v: ∀q,T≤q→q<Q→yL g (R q).1=true∧((R q).2.length:Int)=g.1-1∧(R q).2.all isW=true
 l: ∀q,T≤q→q<Q→(∀p,q<p→p<Q→(R p).1≠(R q).1)→ ∀i,0≤i→i<g.1→V (R q).1 i=ycd (yk g (R q).1) g.1 (yay (R q).2) (R q).2 i
 b: ∀i n,0≤i→i<g.1→fl i=false→bd i n=true→6≤n
theorem yxt {id:Int} {g:dG} {G T L B i:Int} (h:yH (yeM id g G T L B i)=true):ywv id (G.tmod 2) (ym (yeM id g G T L B i)) (yeM id g G T L B i):=⟨yIG h,rfl,rfl⟩
theorem yVP {G:Int} (h:0≤G):G.tmod 2=0∨G.tmod 2=1:=by have:=yIu h; omega
theorem yfk {id:Int} {g:dG} {G T L B i:Int} (h:yH (yeM id g G T L B i)=true):(0≤G∧G≤60000)∧yd g=true∧(1≤id∧id≤60000)∧(0≤T∧T≤60000)∧(-1≤L∧L≤g.1-1)∧(0≤B∧B≤g.2)∧(0≤L∨B=0):=by
 obtain⟨h1,h2,h3,h4,h5,h6,h7,h8⟩:=yxF.1 h;exact⟨h3,h1,h2,h5,h6,h7,h8⟩
theorem y1R {id:Int} {g:dG} {G T L B i:Int} (h1:0≤G∧G≤60000) (h2:yd g=true) (h3:1≤id∧id≤60000) (h4:0≤T∧T≤60000) (h5: -1≤L∧L≤g.1-1) (h6:0≤B∧B≤g.2) (h7:0≤L∨B=0) (i0:0≤i) (i1:i<g.1):yH (yeM id g G T L B i)=true :=
 yxF.2 ⟨h2,h3,h1,⟨i0,by show i≤g.1-1; omega⟩,h4,h5,h6,h7⟩
theorem yGv {r:dN} (h:yW r=true):yaB (yac r)=(r,true):=by
 have hr:=ysD.1 h;have ha:yIp (yac r)=r:=by unfold yac; rw[h]; rfl
 unfold yaB;rw[ha,h];unfold yac;rw[h];show(bif leb 4 ((21322::r.1::r.2.1::(r.2.2.length:Int)::r.2.2).length:Int)&&((21322:Int)==21322&&((r.2.2.length:Int)==((21322::r.1::r.2.1::(r.2.2.length:Int)::r.2.2).length:Int)-4&&true))then(r,true)else(yLR,false))=(r,true);have e:((21322::r.1::r.2.1::(r.2.2.length:Int)::r.2.2).length:Int)=r.2.2.length+4:=by simp only[List.length_cons]; omega
 rw[e,zk0 (show(4:Int)≤r.2.2.length+4 by omega),show((r.2.2.length:Int)==(r.2.2.length:Int)+4-4)=true from beq_iff_eq.2 (by omega)]; rfl
theorem yLy {g:dG} {q s:Int} {d:List Int} (h0:0≤q) (h1:q≤60000) (hs:yL g s=true) (hl:(d.length:Int)=g.1-1) (hd:d.all isW=true):yW (q,s,d)=true:=by
 have h:=yV.1 hs;have hg:=yl.1 h.1;exact ysD.2 ⟨⟨h0,h1⟩,⟨h.2.1,by show s≤7; omega⟩,⟨by show 2≤(d.length:Int); omega,by show(d.length:Int)≤4; omega⟩,hd⟩
theorem ygx {id:Int} {g:dG} {G T L B Lf Bf:Int} {f f':Int→Int→List Int} {fl:Int→Bool} (h:Wsup id g G T L B Lf Bf f fl) (hf: ∀i n,0≤i→i<g.1→fl i=false→(n=0∨n=1)→f' i n=f i n):Wsup id g G T L B Lf Bf f' fl:=by
 have ow: ∀i,0≤i→i<g.1→fl i=false→(yfH id (f' i)↔yfH id (f i)):=fun i i0 i1 hi =>
  ⟨fun⟨n,s,hn,hs⟩=>⟨n,s,hn,by rw[hf i n i0 i1 hi hn]at hs; exact hs⟩,fun⟨n,s,hn,hs⟩=>⟨n,s,hn,by rw[hf i n i0 i1 hi hn]; exact hs⟩⟩
 refine⟨h.u0,fun i n s i0 i1 hi hn hs=>h.u1 i n s i0 i1 hi hn (by rw[hf i n i0 i1 hi hn]at hs; exact hs),fun i i0 i1 hne=> ?_,?_,?_⟩
 ·obtain⟨h1,h2⟩:=h.u2 i i0 i1 hne
  exact⟨h1,(ow i i0 i1 h1).2 h2⟩
 ·obtain⟨i,i0,i1,hi,h2⟩:=h.u3
  exact⟨i,i0,i1,hi,by rw[hf i _ i0 i1 hi (yVP (yfk (h.u0 i i0 i1)).1.1)]; exact h2⟩
 ·rcases h.u4 with⟨h1,h2,h3⟩ | ⟨h1,h2,h3,h4⟩
  ·refine .inl ⟨h1,h2,?_⟩
   rcases h3 with h3 | ⟨h3,h4⟩
   ·exact .inl h3
   ·obtain⟨i,i0,i1,_⟩:=h.u3
    have:=(yfk (h.u0 i i0 i1)).2.2.2.2.1;by_cases hm:Lf= -1
    ·exact .inl hm
    ·exact .inr ⟨h3,(ow Lf (by omega) (by omega) h3).2 h4⟩
  ·exact .inr ⟨h1,h2,fun⟨h5,h6⟩=>h3 ⟨h5,(ow Lf h1 h2 h5).1 h6⟩,h4⟩
theorem yYo {g:dG} {T Q:Int} {R:Int→Int×List Int} {V:Int→Int→Int} {Lf Bf B2:Int} {f:Int→Int→List Int} {fl:Int→Bool} {bd:Int→Int→Bool} (h:Wdat g T Q R V Lf Bf f fl bd) (hb:B2≤Bf):Wdat g T Q R V Lf B2 f fl bd :=
 ⟨h.e,h.q,fun i s i0 i1 s0 s1 hi hl hb2 hj=>h.d i s i0 i1 s0 s1 hi (hl.imp id (fun h=>by omega)) hb2 hj,h.r,h.h,h.v,h.l,h.b⟩
theorem ygw {g:dG} {T Q:Int} {R:Int→Int×List Int} {V:Int→Int→Int} {Lf Bf:Int} {f f':Int→Int→List Int} {fl:Int→Bool} {bd bd':Int→Int→Bool} (h:Wdat g T Q R V Lf Bf f fl bd)
  (hf: ∀i n,0≤i→i<g.1→fl i=false→2≤n→(f' i n=f i n∧bd' i n=bd i n)∨(∃q,T≤q∧q<Q∧n=(R q).1+6)∨(i=Lf∧Bf+6≤n∧6≤n)) (hb: ∀i n,0≤i→i<g.1→bd' i n=true→bd i n=true):Wdat g T Q R V Lf Bf f' fl bd':=by
 have sl: ∀i n,0≤i→i<g.1→fl i=false→2≤n→n<6→f' i n=f i n:=fun i n i0 i1 hi h2 h6=>by
  rcases hf i n i0 i1 hi h2 with h1 | ⟨q,q0,q1,e⟩ | h1
  ·exact h1.1
  ·have:=yV.1 (h.v q q0 q1).1; omega
  ·omega
 have hq:=h.q;refine⟨h.e,h.q,fun i s i0 i1 s0 s1 hi hl hb2 hj=> ?_,fun q q0 q1=> ?_,fun i n r i0 i1 hi h2 h6 hr=>h.h i n r i0 i1 hi h2 h6 (by rw[sl i n i0 i1 hi h2 h6]at hr; exact hr),h.v,h.l,fun i n i0 i1 hi hn=>h.b i n i0 i1 hi (hb i n i0 i1 hn)⟩
 ·rcases hf i (s+6) i0 i1 hi (by omega)with⟨h1,h2⟩ | ⟨q,q0,q1,e⟩ | h1
  ·rw[h1]; rw[h2]at hb2; exact h.d i s i0 i1 s0 s1 hi hl hb2 hj
  ·exact absurd (by omega) (hj q q0 q1)
  ·omega
 ·obtain⟨i,i0,i1,hi,e⟩:=h.r q q0 q1
  have:=ykv (q:=q) (by omega);exact⟨i,i0,i1,hi,by rw[sl i _ i0 i1 hi this.1 this.2.1]; exact e⟩
theorem y4J {g:dG} {T Q:Int} {R:Int→Int×List Int} {V:Int→Int→Int} {Lf Bf q:Int} {f f':Int→Int→List Int} {fl:Int→Bool} {bd bd':Int→Int→Bool} (h:Wdat g T Q R V Lf Bf f fl bd) (q0:T≤q) (q1:q<Q)
  (hf: ∀i n,0≤i→i<g.1→fl i=false→2≤n→f' i n=f i n∨(n=yh q∧f' i n=yac (q,R q))) (hb: ∀i n,0≤i→i<g.1→6≤n→bd' i n=bd i n) (hb2: ∀i n,0≤i→i<g.1→bd' i n=true→bd i n=true):Wdat g T Q R V Lf Bf f' fl bd':=by
 have hq:=h.q;have hv:=h.v q q0 q1;have ho:=yLy (q:=q) (by omega) (by omega) hv.1 hv.2.1 hv.2.2;have hsl:=ykv (q:=q) (by omega);refine⟨h.e,h.q,fun i s i0 i1 s0 s1 hi hl hb3 hj=> ?_,fun p p0 p1=> ?_,fun i n r i0 i1 hi h2 h6 hr=> ?_,h.v,h.l,fun i n i0 i1 hi hn=>h.b i n i0 i1 hi (hb2 i n i0 i1 hn)⟩
 ·rcases hf i (s+6) i0 i1 hi (by omega)with h1 | ⟨h1,_⟩
  ·rw[h1]; rw[hb i (s+6) i0 i1 (by omega)]at hb3; exact h.d i s i0 i1 s0 s1 hi hl hb3 hj
  ·omega
 ·obtain⟨i,i0,i1,hi,e⟩:=h.r p p0 p1
  have hsp:=ykv (q:=p) (by omega);refine⟨i,i0,i1,hi,?_⟩;rcases hf i _ i0 i1 hi hsp.1 with h1 | ⟨h1,h2⟩
  ·rw[h1]; exact e
  ·have:p=q:=by omega
   subst this; exact h2
 ·rcases hf i n i0 i1 hi h2 with h1 | ⟨_,h1⟩
  ·rw[h1]at hr; exact h.h i n r i0 i1 hi h2 h6 hr
  ·rw[h1,yGv ho]at hr
   have:=congrArg (fun x=>x.1) hr;simp only at this;subst this;exact⟨q1,fun _=>rfl⟩
def yYm (R:Int→Int×List Int) (Q s:Int) (d:List Int):Int→Int×List Int:=fun q=>bif q==Q then(s,d)else R q
theorem yxo (R:Int→Int×List Int) (Q s:Int) (d:List Int):yYm R Q s d Q=(s,d):=by unfold yYm; rw[beq_self_eq_true]; rfl
theorem ysE {R:Int→Int×List Int} {Q s q:Int} {d:List Int} (h:q<Q):yYm R Q s d q=R q:=by unfold yYm; rw[show(q==Q)=false from beq_eq_false_iff_ne.2 (by omega)]; rfl
theorem yYY {g:dG} {T Q:Int} {R:Int→Int×List Int} {V:Int→Int→Int} {Lf Bf s:Int} {d:List Int} {f f':Int→Int→List Int} {fl:Int→Bool} {bd bd':Int→Int→Bool} (h:Wdat g T Q R V Lf Bf f fl bd) (h3:Q≤T+3) (hQ:Q<60000) (hs:yL g s=true) (hl:(d.length:Int)=g.1-1) (hd:d.all isW=true)
  (hf: ∀i n,0≤i→i<g.1→fl i=false→2≤n→f' i n=f i n∨(n=yh Q∧f' i n=yac (Q,s,d))) (hb: ∀i n,0≤i→i<g.1→6≤n→bd' i n=bd i n) (hb2: ∀i n,0≤i→i<g.1→bd' i n=true→bd i n=true)
  (hx: ∃i,0≤i∧i<g.1∧fl i=false∧f' i (yh Q)=yac (Q,s,d)):Wdat g T (Q+1) (yYm R Q s d) (ycc V g s d) Lf Bf f' fl bd':=by
 have hq:=h.q;have ho:=yLy (q:=Q) (by omega) (by omega) hs hl hd;have hsl:=ykv (q:=Q) (by omega);refine⟨y2u h.e hs hl hd,by omega,fun i t i0 i1 s0 s1 hi hlv hb3 hj=> ?_,fun p p0 p1=> ?_,fun i n r i0 i1 hi h2 h6 hr=> ?_,fun p p0 p1=> ?_,fun p p0 p1 hp i i0 i1=> ?_,fun i n i0 i1 hi hn=>h.b i n i0 i1 hi (hb2 i n i0 i1 hn)⟩
 ·have hts:t≠s:=fun e=>hj Q (by omega) (by omega) (by rw[yxo]; exact e.symm)
  unfold ycc;rw[show(t==s)=false from beq_eq_false_iff_ne.2 hts,cond_false];rcases hf i (t+6) i0 i1 hi (by omega)with h1 | ⟨h1,_⟩
  ·rw[h1]; rw[hb i (t+6) i0 i1 (by omega)]at hb3
   exact h.d i t i0 i1 s0 s1 hi hlv hb3 (fun q q0 q1=>by have:=hj q q0 (by omega); rwa[ysE q1]at this)
  ·omega
 ·by_cases hpq:p=Q
  ·subst hpq; rw[yxo]; exact hx
  ·obtain⟨i,i0,i1,hi,e⟩:=h.r p p0 (by omega)
   have hsp:=ykv (q:=p) (by omega);refine⟨i,i0,i1,hi,?_⟩;rw[ysE (show p<Q by omega)];rcases hf i _ i0 i1 hi hsp.1 with h1 | ⟨h1,h2⟩
   ·rw[h1]; exact e
   ·omega
 ·rcases hf i n i0 i1 hi h2 with h1 | ⟨_,h1⟩
  ·rw[h1]at hr
   obtain⟨g1,g2⟩:=h.h i n r i0 i1 hi h2 h6 hr;exact⟨by omega,fun ht=>by rw[ysE g1]; exact g2 ht⟩
  ·rw[h1,yGv ho]at hr
   have:=congrArg (fun x=>x.1) hr;simp only at this;subst this;exact⟨by show Q<Q+1; omega,fun _=>(yxo R Q s d).symm⟩
 ·by_cases hpq:p=Q
  ·subst hpq; rw[yxo]; exact⟨hs,hl,hd⟩
  ·rw[ysE (show p<Q by omega)]; exact h.v p p0 (by omega)
 ·by_cases hpq:p=Q
  ·subst hpq; rw[yxo]; unfold ycc; rw[beq_self_eq_true]; rfl
  ·have hne:s≠(R p).1:=fun e=>hp Q (by omega) (by omega) (by rw[yxo,ysE (show p<Q by omega)]; exact e)
   rw[ysE (show p<Q by omega)];unfold ycc;rw[show((R p).1==s)=false from beq_eq_false_iff_ne.2 (fun e=>hne e.symm),cond_false];exact h.l p p0 (by omega) (fun p2 h1 h2=>by have:=hp p2 h1 (by omega); rwa[ysE (show p2<Q by omega),ysE (show p<Q by omega)]at this) i i0 i1
theorem y5A {id:Int} {g:dG} {G T L B Lf Bf T2 L2 B2 Lf2:Int} {f f':Int→Int→List Int} {fl:Int→Bool} (hs:Wsup id g G T L B Lf Bf f fl) (ho: ∀i,0≤i→i<g.1→yH (yeM id g (G+1) T2 L2 B2 i)=true)
  (hf: ∀i n,0≤i→i<g.1→fl i=false→f' i n=f i n∨(n=(G+1).tmod 2∧f' i n=ym (yeM id g (G+1) T2 L2 B2 i)))
  (h2: ∀i,0≤i→i<g.1→i≠Lf2→fl i=false∧yfH id (f i)) (h4:Lf2=L2∨(L2= -1∧0≤Lf2∧Lf2<g.1∧fl Lf2=true)) (hB:0≤B2) :
  Wsup id g G T L B Lf Bf f' fl∨ ∃Bg,Bg≤B2∧Wsup id g (G+1) T2 L2 B2 Lf2 Bg f' fl:=by
 obtain⟨j,j0,j1,jf,_⟩:=hs.u3;have hG:=yfk (hs.u0 j j0 j1);have hL2:=yfk (ho j j0 j1);have hsl:=yVP (G:=G+1) (by omega);have hmod:(G+1).tmod 2≠G.tmod 2:=by rw[Int.tmod_eq_emod_of_nonneg (by omega),Int.tmod_eq_emod_of_nonneg (by omega)]; omega
 by_cases hx: ∃i,0≤i∧i<g.1∧fl i=false∧f' i ((G+1).tmod 2)=ym (yeM id g (G+1) T2 L2 B2 i)
 ·right
  have ow: ∀i,0≤i→i<g.1→fl i=false→yfH id (f i)→yfH id (f' i):=fun i i0 i1 hi ⟨n,s,hn,hsv⟩=>by
   rcases hf i n i0 i1 hi with h | ⟨h,h1⟩
   ·exact⟨n,s,hn,by rw[h]; exact hsv⟩
   ·exact⟨n,_,hn,by rw[h1,h]; exact yxt (ho i i0 i1)⟩
  have a1: ∀i n s,0≤i→i<g.1→fl i=false→(n=0∨n=1)→ywv id n (f' i n) s→s.2.2.1=i∧(s.2.1<G+1∨s=yeM id g (G+1) T2 L2 B2 i):=fun i n s i0 i1 hi hn hsv=>by
   rcases hf i n i0 i1 hi with h | ⟨h,h1⟩
   ·rw[h]at hsv
    obtain⟨g1,g2⟩:=hs.u1 i n s i0 i1 hi hn hsv;refine⟨g1,.inl ?_⟩;rcases g2 with g2 | g2
    ·omega
    ·rw[g2]; show G<G+1; omega
   ·rw[h1]at hsv
    have:=(yxt (ho i i0 i1)).1.symm.trans hsv.1;have:=congrArg (fun x=>x.1) this;simp only at this;subst this;exact⟨rfl,.inr rfl⟩
  have a2: ∀i,0≤i→i<g.1→i≠Lf2→fl i=false∧yfH id (f' i):=fun i i0 i1 hne=>by
   obtain⟨k1,k2⟩:=h2 i i0 i1 hne;exact⟨k1,ow i i0 i1 k1 k2⟩
  rcases h4 with h4 | ⟨h4,h5,h6,h7⟩
  ·by_cases hm:Lf2= -1
   ·exact⟨B2,Int.le_refl _,ho,a1,a2,hx,.inl ⟨h4,rfl,.inl hm⟩⟩
   ·by_cases hown:fl Lf2=false∧yfH id (f' Lf2)
    ·exact⟨B2,Int.le_refl _,ho,a1,a2,hx,.inl ⟨h4,rfl,.inr hown⟩⟩
    ·exact⟨0,hB,ho,a1,a2,hx,.inr ⟨by omega,by omega,hown,.inr h4.symm,rfl⟩⟩
  ·exact⟨0,hB,ho,a1,a2,hx,.inr ⟨h5,h6,(fun h=>by have:=h.1; rw[h7]at this; cases this),.inl h4,rfl⟩⟩
 ·left
  refine ygx hs (fun i n i0 i1 hi hn=> ?_);rcases hf i n i0 i1 hi with h | ⟨h,h1⟩
  ·exact h
  ·exact absurd ⟨i,i0,i1,hi,by rw[← h]; exact h1⟩ hx
def yG (a:dA) (i:Int):Bool:=(yj a i).2.2.1
def yK (a:dA) (i n:Int):Bool:=yaZ (yj a i) n
def Ch (a:dA) (f:Int→Int→List Int):Prop:= ∀i n,0≤i→i<a.2.1.1→0≤n→ynn (yj a i) n (f i n)
def TrD (n:Int) (v:List Int) (m x:dM):Prop:=(∀k w,0≤k→ynn x k w→ynn m k w∨(k=n∧w=v))∧x.2.2.1=m.2.2.1∧(∀k,k≠n→yaZ x k=yaZ m k)∧ ∀k,yaZ x k=true→yaZ m k=true
theorem yxu (n:Int) (v:List Int) (m:dM):TrD n v m m:=⟨fun _ _ _ h=> .inl h,rfl,fun _ _=>rfl,fun _ h=>h⟩
theorem y3Z {n:Int} {v:List Int} {m x y:dM} (h:TrD n v m x) (g:TrD n v x y):TrD n v m y :=⟨fun k w k0 hw=>(g.1 k w k0 hw).elim (h.1 k w k0) .inr,g.2.1.trans h.2.1,fun k hk=>(g.2.2.1 k hk).trans (h.2.2.1 k hk),fun k hk=>h.2.2.2 k (g.2.2.2 k hk)⟩
theorem yYU (n:Int) (v:List Int) (m:dM):TrD n v m (yZ m n v).1:=by
 refine⟨fun k w _ hw=>y3k hw,(yyY m n v).2,fun k hk=> ?_,fun k hk=> ?_⟩
 ·cases hc:ybj m n v
  ·unfold yZ; rw[hc]; rfl
  ·rw[yxK hc,show(k !=n)=true from bne_iff_ne.2 hk,Bool.and_true]
 ·cases hc:ybj m n v
  ·unfold yZ at hk; rw[hc]at hk; exact hk
  ·rw[yxK hc,Bool.and_eq_true]at hk; exact hk.1
theorem y2O (n:Int) (v:List Int) (m:dM):TrD n v m (yec n v m):=by
 unfold yec;cases m.2.2.1
 ·exact yYU n v m
 ·exact yxu n v m
theorem yYT (n:Int) (v:List Int) {m:dM} (h:yw m=true):TrD n v m (yE m):=by
 refine⟨fun k w k0 hw=> .inl ?_,(ysy m).2,fun k _=>yJZ m k,fun k hk=>by rw[yJZ]at hk; exact hk⟩;cases hf:m.2.2.1
 ·rw[yus h hf k0 hw]; exact ywW m k
 ·unfold yE at hw; rw[hf,Bool.not_true,Bool.and_false]at hw; exact hw
structure Trn (n:Int) (v:Int→List Int) (a r:dA):Prop where
 g:r.2.1=a.2.1
 c: ∀f',Ch r f'→ ∃f,Ch a f∧ ∀i m,0≤i→i<a.2.1.1→0≤m→f' i m=f i m∨(m=n∧f' i m=v i)
 f: ∀i,0≤i→i<a.2.1.1→yG r i=yG a i
 b: ∀i m,0≤i→i<a.2.1.1→m≠n→yK r i m=yK a i m
 d: ∀i m,0≤i→i<a.2.1.1→yK r i m=true→yK a i m=true
theorem y30 {n:Int} {v:Int→List Int} {a r:dA} (hg:r.2.1=a.2.1) (h: ∀i,0≤i→i<a.2.1.1→TrD n (v i) (yj a i) (yj r i)):Trn n v a r:=by
 refine⟨hg,fun f' hf'=> ?_,fun i i0 i1=>(h i i0 i1).2.1,fun i m i0 i1 hm=>(h i i0 i1).2.2.1 m hm,fun i m i0 i1 hm=>(h i i0 i1).2.2.2 m hm⟩
 classical
 refine⟨fun i m=>if ynn (yj a i) m (f' i m)then f' i m else ycb (yj a i) m,fun i m i0 i1 m0=> ?_,fun i m i0 i1 m0=> ?_⟩
 ·show ynn (yj a i) m (if ynn (yj a i) m (f' i m)then f' i m else ycb (yj a i) m)
  split
  ·assumption
  ·exact ywW _ _
 ·show f' i m=(if ynn (yj a i) m (f' i m)then f' i m else ycb (yj a i) m)∨_
  rcases(h i i0 i1).1 m (f' i m) m0 (hf' i m i0 (by rw[hg]; exact i1) m0)with h1 | h1
  ·left; rw[if_pos h1]
  ·exact .inr h1
def yxv (a:dA):Prop:=(a.2.2.1.length:Int)=a.2.1.1∧ ∀i,0≤i→i<a.2.1.1→yw (yj a i)=true
theorem ybL {a:dA} (h:yI a):yxv a:=⟨h.1.2,fun _ i0 i1=>(ydP h i0 i1).1⟩
theorem yRZ {n:Int} {v:Int→List Int} {a M:dA} (hg:M.2.1=a.2.1) (hl:M.2.2.1.length=a.2.2.1.length) (ha:yxv a) (h: ∀i,0≤i→i<a.2.1.1→yj M i=yj a i∨yj M i=yec n (v i) (yj a i)):Trn n v a (ye M):=by
 refine y30 ((yah (yaF M)).trans hg) fun i i0 i1=> ?_
 have hM:TrD n (v i) (yj a i) (yj M i)∧yw (yj M i)=true:=by
  rcases h i i0 i1 with e | e
  ·rw[e]; exact⟨yxu _ _ _,ha.2 i i0 i1⟩
  ·rw[e]; exact⟨y2O _ _ _,yoS (ha.2 i i0 i1)⟩
 cases hd:ya M
 ·obtain⟨_,_,k,_,h3,_⟩:=yRX hd
  rw[h3 i i0];cases ltb i k
  ·exact hM.1
  ·exact y3Z hM.1 (yYT _ _ hM.2)
 ·rw[ysH hd]; exact hM.1
theorem yIw {a:dA} (n:Int) (v:Int→List Int) (h:yxv a):Trn n v a (ye a):=yRZ rfl rfl h (fun _ _ _=> .inl rfl)
theorem yS2 {g:Int→dM→dM} {a r:dA} {n:Nat} (h:Adv g a r n) {i:Int} (i0:0≤i):yj r i=yj a i∨yj r i=g i (yj a i):=by
 obtain⟨_,_,k,_,h3,_⟩:=h;rw[h3 i i0];cases ltb i k
 ·exact .inl rfl
 ·exact .inr rfl
theorem yIv {a:dA} (h:yxv a):Trn ((i64.wrap (a.2.2.2.2.2.2.2.1+1)).tmod 2) (fun i=>ym (yeM a.1 a.2.1 (i64.wrap (a.2.2.2.2.2.2.2.1+1)) a.2.2.2.2.2.2.1 a.2.2.2.1 a.2.2.2.2.1 i)) a (yD a):=by
 unfold yD;have hc:=yny (one:=yae) (fun _ _=>yhq _ _ _ _) (List.range a.2.2.1.length) (yat a);have hl:((List.range a.2.2.1.length).foldl yae (yat a)).2.2.1.length=a.2.2.1.length:=yja (one:=yae) (fun _ _=>yo7 _ _ _ _) _ (yat a);refine yRZ (yah (b:=yat a) hc) hl h fun i i0 i1=> ?_
 cases hd:ya a
 ·exact yS2 (a:=yat a) (y1z (a:=yat a) hd) i0
 ·rw[ykz (one:=yae) (fun _ _ h=>ynU h _ _ _) _ (yat a) hd]; exact .inl rfl
theorem yLV {a:dA} (r:dN) (h:yxv a):Trn (yh r.1) (fun _=>yac r) a (yo a r):=by
 unfold yo;have hc:=yny (one:=ya8 r) (fun _ _=>yhq _ _ _ _) (List.range a.2.2.1.length) a;refine yRZ (yah hc) (yja (ylb r) _ _) h fun i i0 i1=> ?_
 cases hd:ya a
 ·exact yS2 (y2J r hd) i0
 ·rw[ykz (one:=ya8 r) (fun _ _ h=>ynU h _ _ _) _ a hd]; exact .inl rfl
theorem yRY {a:dA} (s:Int) (d:List Int) (h:yxv a):Trn (yA s) (fun i=> [ycd (yk a.2.1 s) a.2.1.1 (yay d) d i]) a (yB a s d):=by
 refine y30 (yah (yd7 a s d)) fun i i0 i1=> ?_
 cases hd:ya a
 ·rcases yS2 (yO3 s d hd) i0 with e | e
  ·rw[e]; exact yxu _ _ _
  ·rw[e]
   unfold yiP;cases yaf a.2.2.2.1 a.2.2.2.2.1 i s (yj a i)
   ·exact yxu _ _ _
   ·exact yYU _ _ _
 ·have:yB a s d=a:=ykz (one:=ya9 (yk a.2.1 s) a.2.1.1 s d) (fun _ _ h=>yDw _ _ _ _ _ h) _ a hd
  rw[this]; exact yxu _ _ _
def Al (L N:Int) (fl0 fl:Int→Bool) (Lf:Int):Prop:=(Lf=L∧ ∀i,0≤i→i<N→fl i=fl0 i)∨(0≤Lf∧Lf<N∧(L= -1∨L=Lf)∧ ∀i,0≤i→i<N→fl i=(fl0 i||i==Lf))
def Eq0 (a:dA) (fl:Int→Bool) (Lf:Int):Prop:=Lf=a.2.2.2.1∧ ∀i,0≤i→i<a.2.1.1→fl i=yG a i
theorem yC0 {L N Lf i:Int} {fl0 fl:Int→Bool} (h:Al L N fl0 fl Lf) (i0:0≤i) (i1:i<N) (hi:fl i=false):fl0 i=false:=by
 rcases h with⟨_,h⟩ | ⟨_,_,_,h⟩
 ·rw[← h i i0 i1]; exact hi
 ·rw[h i i0 i1,Bool.or_eq_false_iff]at hi; exact hi.1
theorem y4S {L N Lf i:Int} {fl0 fl:Int→Bool} (h:Al L N fl0 fl Lf) (hb: ∀i,0≤i→i<N→fl0 i=true→i=L) (i0:0≤i) (i1:i<N) (hi:i≠Lf):fl i=false:=by
 cases hf:fl0 i
 ·rcases h with⟨_,h⟩ | ⟨_,_,_,h⟩
  ·rw[h i i0 i1]; exact hf
  ·rw[h i i0 i1,hf,show(i==Lf)=false from beq_eq_false_iff_ne.2 hi]; rfl
 ·have:=hb i i0 i1 hf
  rcases h with⟨h,_⟩ | ⟨_,_,h,_⟩<;>omega
theorem yxC {L N Lf:Int} {fl0 fl1 fl:Int→Bool} (h:Al L N fl1 fl Lf) (e: ∀i,0≤i→i<N→fl1 i=fl0 i):Al L N fl0 fl Lf :=
 h.imp (fun⟨h1,h2⟩=>⟨h1,fun i i0 i1=>(h2 i i0 i1).trans (e i i0 i1)⟩) (fun⟨h1,h2,h3,h4⟩=>⟨h1,h2,h3,fun i i0 i1=>by rw[h4 i i0 i1,e i i0 i1]⟩)
def WW (K id:Int) (g:dG) (V:Int→Int→Int) (Lf:Int) (f:Int→Int→List Int) (fl:Int→Bool) (bd:Int→Int→Bool):Prop:= ∃(G T L B Q:Int) (R:Int→Int×List Int) (Bf:Int),G≤K∧Q≤K∧Wsup id g G T L B Lf Bf f fl∧Wdat g T Q R V Lf Bf f fl bd
theorem y2Q {K J id:Int} {g:dG} {V:Int→Int→Int} {Lf:Int} {f:Int→Int→List Int} {fl:Int→Bool} {bd:Int→Int→Bool} (h:WW K id g V Lf f fl bd) (hj:K≤J):WW J id g V Lf f fl bd:=by
 obtain⟨G,T,L,B,Q,R,Bf,h1,h2,h3⟩:=h;exact⟨G,T,L,B,Q,R,Bf,Int.le_trans h1 hj,Int.le_trans h2 hj,h3⟩
structure Mk (a:dA):Prop where
 k:yxv a
 g:yd a.2.1=true
 i:1≤a.1∧a.1≤60000
 l: -1≤a.2.2.2.1∧a.2.2.2.1≤a.2.1.1-1
 b:0≤a.2.2.2.2.1∧a.2.2.2.2.1≤a.2.1.2
 z:0≤a.2.2.2.1∨a.2.2.2.2.1=0
 t:0≤a.2.2.2.2.2.2.1∧a.2.2.2.2.2.2.1≤60000
 n:0≤a.2.2.2.2.2.2.2.1∧a.2.2.2.2.2.2.2.1<60000
theorem y2E {a:dA} (h:yT a) (hk:yI a) (hg:a.2.2.2.2.2.2.2.1<60000):Mk a:=by
 obtain⟨c1,c2,c3,c4,c5,c6,c7,c8,c9,c10,c11⟩:=h;refine⟨ybL hk,c1,c2,c4,c5,?_,c7,c10,hg⟩;by_cases e:a.2.2.2.1= -1
 ·exact .inr (c6 e)
 ·exact .inl (by omega)
theorem yTU {a:dA} (h:Mk a) {i:Int} (i0:0≤i) (i1:i<a.2.1.1):yH (yeM a.1 a.2.1 (a.2.2.2.2.2.2.2.1+1) a.2.2.2.2.2.2.1 a.2.2.2.1 a.2.2.2.2.1 i)=true:=by
 have:=h.n;exact y1R (by omega) h.g h.i h.t h.l h.b h.z i0 i1
theorem yYN {a:dA} {T L B Q Lf Lf2:Int} {R:Int→Int×List Int} {V:Int→Int→Int} {f':Int→Int→List Int} {fl:Int→Bool} (hm:Mk a) (hc:Ch (yD a) f') (hfl: ∀i,0≤i→i<a.2.1.1→fl i=false→yG a i=false)
  (old: ∀f,Ch a f→ ∃Bf,Wsup a.1 a.2.1 a.2.2.2.2.2.2.2.1 T L B Lf Bf f fl∧Wdat a.2.1 T Q R V Lf Bf f fl (yK a))
  (new: ∀f,Ch a f→Wdat a.2.1 a.2.2.2.2.2.2.1 Q R V Lf2 a.2.2.2.2.1 f fl (yK a))
  (h2: ∀f,Ch a f→ ∀i,0≤i→i<a.2.1.1→i≠Lf2→fl i=false∧yfH a.1 (f i)) (h4:Lf2=a.2.2.2.1∨(a.2.2.2.1= -1∧0≤Lf2∧Lf2<a.2.1.1∧fl Lf2=true)) :
  (∃Bf,Wsup a.1 a.2.1 a.2.2.2.2.2.2.2.1 T L B Lf Bf f' fl∧Wdat a.2.1 T Q R V Lf Bf f' fl (yK (yD a))) ∨
   ∃Bf,Wsup a.1 a.2.1 (a.2.2.2.2.2.2.2.1+1) a.2.2.2.2.2.2.1 a.2.2.2.1 a.2.2.2.2.1 Lf2 Bf f' fl∧Wdat a.2.1 a.2.2.2.2.2.2.1 Q R V Lf2 Bf f' fl (yK (yD a)):=by
 have ht:=yIv hm.k;have hn:=hm.n;rw[wq (a.2.2.2.2.2.2.2.1+1) (by omega) (by omega)]at ht;obtain⟨f,hf,hff⟩:=ht.c f' hc;obtain⟨Bf,o1,o2⟩:=old f hf;have hsl:=yIu (g:=a.2.2.2.2.2.2.2.1+1) (by omega)
 have hf0: ∀i n,0≤i→i<a.2.1.1→fl i=false→2≤n→f' i n=f i n∧yK (yD a) i n=yK a i n:=fun i n i0 i1 hi h2=>by
  rcases hff i n i0 i1 (by omega)with h | ⟨h,_⟩
  ·exact⟨h,ht.b i n i0 i1 (by omega)⟩
  ·omega
 have dat: ∀{T Q Lf Bf:Int},Wdat a.2.1 T Q R V Lf Bf f fl (yK a)→Wdat a.2.1 T Q R V Lf Bf f' fl (yK (yD a)):=fun h =>
  ygw h (fun i n i0 i1 hi h2=> .inl (hf0 i n i0 i1 hi h2)) (fun i n i0 i1 hb=>ht.d i n i0 i1 hb)
 have hff2: ∀i n,0≤i→i<a.2.1.1→fl i=false→0≤n→f' i n=f i n∨(n=(a.2.2.2.2.2.2.2.1+1).tmod 2∧f' i n=ym (yeM a.1 a.2.1 (a.2.2.2.2.2.2.2.1+1) a.2.2.2.2.2.2.1 a.2.2.2.1 a.2.2.2.2.1 i)):=fun i n i0 i1 _ n0=>hff i n i0 i1 n0
 obtain⟨F,hF⟩: ∃F:Int→Int→List Int,F=fun i n=>if 0≤n then f' i n else f i n:=⟨_,rfl⟩
 have hFe: ∀i n,0≤n→F i n=f' i n:=fun i n n0=>by rw[hF]; exact if_pos n0
 have hw:=y5A (T2:=a.2.2.2.2.2.2.1) (L2:=a.2.2.2.1) (B2:=a.2.2.2.2.1) (f':=F) o1 (fun i i0 i1=>yTU hm i0 i1) (fun i n i0 i1 hi=>by
  by_cases n0:0≤n
  ·rw[hFe i n n0]; exact hff2 i n i0 i1 hi n0
  ·left; rw[hF]; exact if_neg n0) (h2 f hf) h4 hm.b.1
 have back: ∀{G T L B Lf Bf:Int},Wsup a.1 a.2.1 G T L B Lf Bf F fl→Wsup a.1 a.2.1 G T L B Lf Bf f' fl:=fun h=>ygx h (fun i n i0 i1 _ hn=>(hFe i n (by omega)).symm)
 rcases hw with hw | ⟨Bg,hg,hw⟩
 ·exact .inl ⟨Bf,back hw,dat o2⟩
 ·exact .inr ⟨Bg,back hw,dat (yYo (new f hf) hg)⟩
theorem yYM {a:dA} {Q Lf:Int} {R:Int→Int×List Int} {V:Int→Int→Int} {f':Int→Int→List Int} {fl:Int→Bool} (hm:Mk a) (hu:ya (yD a)=false) (hx: ∀i,0≤i→i<a.2.1.1→2≤(yj a i).1.length∧(yj a i).2.1.length<60) (hb: ∀i,0≤i→i<a.2.1.1→yG a i=true→i=a.2.2.2.1)
  (hc:Ch (yD a) f') (hal:Al a.2.2.2.1 a.2.1.1 (yG a) fl Lf)
  (base: ∀f,Ch a f→ ∀i n s,0≤i→i<a.2.1.1→yG a i=false→(n=0∨n=1)→ywv a.1 n (f i n) s→s.2.2.1=i∧s.2.1≤a.2.2.2.2.2.2.2.1)
  (new: ∀f,Ch a f→Wdat a.2.1 a.2.2.2.2.2.2.1 Q R V Lf a.2.2.2.2.1 f fl (yK a)) (hz:a.2.2.2.1≠ -1→yG a a.2.2.2.1=true→a.2.2.2.2.1=0) :
  ∃Bf,((Eq0 a fl Lf→Bf=a.2.2.2.2.1)∧(Eq0 a fl Lf→Lf≠ -1→fl Lf=false→yfH a.1 (f' Lf)))∧Wsup a.1 a.2.1 (a.2.2.2.2.2.2.2.1+1) a.2.2.2.2.2.2.1 a.2.2.2.1 a.2.2.2.2.1 Lf Bf f' fl∧Wdat a.2.1 a.2.2.2.2.2.2.1 Q R V Lf Bf f' fl (yK (yD a)):=by
 have ht:=yIv hm.k;have hn:=hm.n;have hlen:=hm.k.1;have hg3:=yl.1 hm.g;have hw:i64.wrap (a.2.2.2.2.2.2.2.1+1)=a.2.2.2.2.2.2.2.1+1:=wr (by omega) (by omega);have hsl:=yIu (g:=a.2.2.2.2.2.2.2.1+1) (by omega)
 have top: ∀i,0≤i→i<a.2.1.1→yG a i=false→f' i ((a.2.2.2.2.2.2.2.1+1).tmod 2)=ym (yeM a.1 a.2.1 (a.2.2.2.2.2.2.2.1+1) a.2.2.2.2.2.2.1 a.2.2.2.1 a.2.2.2.2.1 i):=fun i i0 i1 hi=>by
  have h1:=hc i ((a.2.2.2.2.2.2.2.1+1).tmod 2) i0 (by rw[ht.g]; exact i1) hsl.1;have hmem:=hm.k.2 i i0 i1;obtain⟨x1,x2⟩:=hx i i0 i1;have hi':(yj a i).2.2.1=false:=hi
  have e:yj (yD a) i=yE (yec ((a.2.2.2.2.2.2.2.1+1).tmod 2) (ym (yeM a.1 a.2.1 (a.2.2.2.2.2.2.2.1+1) a.2.2.2.2.2.2.1 a.2.2.2.1 a.2.2.2.2.1 i)) (yj a i)):=by
   rw[y1A hu i0 (by omega)];show yE (yec ((i64.wrap (a.2.2.2.2.2.2.2.1+1)).tmod 2) (ym (yeM a.1 a.2.1 (i64.wrap (a.2.2.2.2.2.2.2.1+1)) a.2.2.2.2.2.2.1 a.2.2.2.1 a.2.2.2.2.1 i)) (yj a i))=_;rw[hw]
  rw[e]at h1;rw[yus (yoS hmem) ((yFL _ _ _).trans hi') hsl.1 h1];have hcw:=yqk (n:=(a.2.2.2.2.2.2.2.1+1).tmod 2) hmem hi' (zj4.2 (by omega)) (yLo (yeM a.1 a.2.1 (a.2.2.2.2.2.2.2.1+1) a.2.2.2.2.2.2.1 a.2.2.2.1 a.2.2.2.2.1 i)) x2;unfold yec;rw[hi',cond_false,ynx hcw,beq_self_eq_true]; rfl
 rw[hw]at ht;obtain⟨f,hf,hff⟩:=ht.c f' hc
 have own: ∀i,0≤i→i<a.2.1.1→fl i=false→yfH a.1 (f' i):=fun i i0 i1 hi =>
  ⟨(a.2.2.2.2.2.2.2.1+1).tmod 2,_,yVP (by omega),by rw[top i i0 i1 (yC0 hal i0 i1 hi)]; exact yxt (yTU hm i0 i1)⟩
 have nef: ∀i,0≤i→i<a.2.1.1→i≠Lf→fl i=false:=fun i i0 i1 hne=>y4S hal hb i0 i1 hne
 have two: ∃i,0≤i∧i<a.2.1.1∧i≠Lf:=by
  by_cases h:Lf=0
  ·exact⟨1,by omega,by omega,by omega⟩
  ·exact⟨0,by omega,by omega,fun e=>h e.symm⟩
 have dat:Wdat a.2.1 a.2.2.2.2.2.2.1 Q R V Lf a.2.2.2.2.1 f' fl (yK (yD a)) :=
  ygw (new f hf) (fun i n i0 i1 hi h2=> .inl (by
   rcases hff i n i0 i1 (by omega)with h | ⟨h,_⟩
   ·exact⟨h,ht.b i n i0 i1 (by omega)⟩
   ·omega)) (fun i n i0 i1 hb=>ht.d i n i0 i1 hb)
 have mk: ∀Bf,((Lf=a.2.2.2.1∧Bf=a.2.2.2.2.1∧(Lf= -1∨(fl Lf=false∧yfH a.1 (f' Lf))))∨(0≤Lf∧Lf<a.2.1.1∧ ¬(fl Lf=false∧yfH a.1 (f' Lf))∧(a.2.2.2.1= -1∨a.2.2.2.1=Lf)∧Bf=0))→Wsup a.1 a.2.1 (a.2.2.2.2.2.2.2.1+1) a.2.2.2.2.2.2.1 a.2.2.2.1 a.2.2.2.2.1 Lf Bf f' fl:=fun Bf h4=>by
  refine⟨fun i i0 i1=>yTU hm i0 i1,fun i n s i0 i1 hi hn2 hsv=> ?_,fun i i0 i1 hne=>⟨nef i i0 i1 hne,own i i0 i1 (nef i i0 i1 hne)⟩,?_,h4⟩
  ·have hi':=yC0 hal i0 i1 hi
   by_cases hns:n=(a.2.2.2.2.2.2.2.1+1).tmod 2
   ·subst hns
    rw[top i i0 i1 hi']at hsv;have:=congrArg (fun x=>x.1) ((yxt (yTU hm i0 i1)).1.symm.trans hsv.1);simp only at this;subst this;exact⟨rfl,.inr rfl⟩
   ·rcases hff i n i0 i1 (by omega)with h | ⟨h,_⟩
    ·rw[h]at hsv
     obtain⟨b1,b2⟩:=base f hf i n s i0 i1 hi' hn2 hsv;exact⟨b1,.inl (by omega)⟩
    ·exact absurd h hns
  ·obtain⟨i,i0,i1,hne⟩:=two
   exact⟨i,i0,i1,nef i i0 i1 hne,top i i0 i1 (yC0 hal i0 i1 (nef i i0 i1 hne))⟩
 have hl:=hm.l;have ow2:Eq0 a fl Lf→Lf≠ -1→fl Lf=false→yfH a.1 (f' Lf):=fun h h5 h6=>own Lf (by have:=h.1; omega) (by have:=h.1; omega) h6
 rcases hal with⟨h1,h2⟩ | ⟨h1,h2,h3,h4⟩
 ·by_cases hne:Lf= -1
  ·exact⟨_,⟨fun _=>rfl,ow2⟩,mk _ (.inl ⟨h1,rfl,.inl hne⟩),dat⟩
  ·rcases Bool.eq_false_or_eq_true (fl Lf)with hf0 | hf0
   ·refine⟨0,⟨fun h=> ?_,ow2⟩,mk 0 (.inr ⟨by omega,by omega,(fun h=>by have:=h.1; rw[hf0]at this; cases this),.inr h1.symm,rfl⟩),yYo dat hm.b.1⟩
    rw[h.2 Lf (by omega) (by omega),h1]at hf0;exact(hz (by omega) hf0).symm
   ·exact⟨_,⟨fun _=>rfl,ow2⟩,mk _ (.inl ⟨h1,rfl,.inr ⟨hf0,own Lf (by omega) (by omega) hf0⟩⟩),dat⟩
 ·have ht:fl Lf=true:=by rw[h4 Lf h1 h2,beq_self_eq_true,Bool.or_true]
  refine⟨0,⟨fun h=> ?_,ow2⟩,mk 0 (.inr ⟨h1,h2,fun h=> ?_,h3,rfl⟩),yYo dat hm.b.1⟩
  ·rw[h.2 Lf h1 h2,h.1]at ht
   exact(hz (by have:=h.1; omega) ht).symm
  ·have:=h.1
   rw[ht]at this; cases this
def yOP (R:Int→Int×List Int) (B0:Int) (V:Int→Int→Int) (a:dA):Prop:=B0≤a.2.2.2.2.1∧ ∀f fl Lf,Ch a f→Al a.2.2.2.1 a.2.1.1 (yG a) fl Lf→ ∃Bf,((Eq0 a fl Lf→Bf=B0)∧(Eq0 a fl Lf→Lf≠ -1→fl Lf=false→yfH a.1 (f Lf)))∧Wsup a.1 a.2.1 a.2.2.2.2.2.2.2.1 a.2.2.2.2.2.2.1 a.2.2.2.1 B0 Lf Bf f fl∧Wdat a.2.1 a.2.2.2.2.2.2.1 a.2.2.2.2.2.1 R V Lf Bf f fl (yK a)
def Rob (B0:Int) (V:Int→Int→Int) (a:dA):Prop:= ∃R,yOP R B0 V a
def Dd (K:Int) (VS:(Int→Int→Int)→Prop) (r:dA):Prop:= ∀f fl Lf,Ch r f→Al r.2.2.2.1 r.2.1.1 (yG r) fl Lf→ ∃V,VS V∧WW K r.1 r.2.1 V Lf f fl (yK r)
theorem ylP {K J:Int} {VS WS:(Int→Int→Int)→Prop} {r:dA} (h:Dd K VS r) (hj:K≤J) (hv: ∀V,VS V→WS V):Dd J WS r:=fun f fl Lf hf hal=>by
 obtain⟨V,h1,h2⟩:=h f fl Lf hf hal;exact⟨V,hv V h1,y2Q h2 hj⟩
structure Nb (a:dA):Prop where
 n:a.2.2.2.1≠ -1→ ∀i s,0≤i→i<a.2.1.1→i≠a.2.2.2.1→0≤s→s<a.2.2.2.2.1→yK a i (s+6)=false
 z:a.2.2.2.1≠ -1→yG a a.2.2.2.1=true→a.2.2.2.2.1=0
structure Lv (K:Int) (V:Int→Int→Int) (a:dA):Prop where
 x:Ix K V a
 r: ∃B0,Rob B0 V a
 n:Nb a
theorem ysB {K J:Int} {V:Int→Int→Int} {a:dA} (h:Lv K V a) (hj:K≤J):Lv J V a:=⟨yWT h.x hj,h.r,h.n⟩
theorem y3a {K:Int} {V:Int→Int→Int} {a:dA} (h:Ix K V a) {i:Int} (i0:0≤i) (i1:i<a.2.1.1) (hf:yG a i=true):i=a.2.2.2.1:=by
 rcases(ydP h.xk i0 i1).2.2 hf with e | e
 ·exact e
 ·rw[h.xb]at e; cases e
theorem y3b {K:Int} {V:Int→Int→Int} {a:dA} (h:Ix K V a) {i:Int} (i0:0≤i) (i1:i<a.2.1.1):2≤(yj a i).1.length∧(yj a i).2.1.length<60:=by
 have hg:=yl.1 h.xc.1;have h1:=(ydP h.xk i0 i1).2.1;have h2:=h.xn i i0 i1;have c:=h.xc;unfold yT at c;have h3:(bif i==a.2.2.2.1 then a.2.2.2.2.1 else 0)≤8:=by cases(i==a.2.2.2.1)<;>simp only[cond_true,cond_false]<;>omega
 omega
theorem yLK {a:dA} {f:Int→Int→List Int} (h:yxv a) (hf:Ch (ye a) f):Ch a f:=fun i n i0 i1 n0=>by
 have hg:(ye a).2.1=a.2.1:=yah (yaF a);have h1:=hf i n i0 (by rw[hg]; exact i1) n0;cases hd:ya a
 ·rcases yS2 (yRX hd) i0 with e | e
  ·rw[e]at h1; exact h1
  ·rw[e]at h1
   rcases(yYT (-1) [] (h.2 i i0 i1)).1 n _ n0 h1 with h2 | h2
   ·exact h2
   ·omega
 ·rw[ysH hd]at h1; exact h1
theorem yVS {K T Lf Bf:Int} {R:Int→Int×List Int} {V:Int→Int→Int} {b:dA} {f:Int→Int→List Int} {fl:Int→Bool} (hix:Ix K V b) (hu:ya (ye b)=false) (hf:Ch (ye b) f) (hfl: ∀i,0≤i→i<b.2.1.1→fl i=false→yG b i=false) (hL:Lf=b.2.2.2.1∨b.2.2.2.1= -1)
  (old:Wdat b.2.1 T b.2.2.2.2.2.1 R V Lf Bf f fl (yK b)):Wdat b.2.1 b.2.2.2.2.2.1 b.2.2.2.2.2.1 R V Lf b.2.2.2.2.1 f fl (yK (ye b)):=by
 have ok:=ybL hix.xk;have ts:=yIw (-1) (fun _=> []) ok;have hlen:=ok.1;have q:=old.q;refine⟨old.e,by omega,fun i s i0 i1 s0 s1 hi hl hb _=> ?_,fun q q0 q1=>by omega,fun i n r i0 i1 hi h2 h6 hr=> ?_,fun q q0 q1=>by omega,fun q q0 q1=>by omega,fun i n i0 i1 hi hn=>old.b i n i0 i1 hi (ts.d i n i0 i1 hn)⟩
 ·have hfi:(yj b i).2.2.1=false:=hfl i i0 i1 hi
  have hp:=hf i (s+6) i0 (by rw[ts.g]; exact i1) (by omega);rw[yIs hu i0 (by omega)]at hp;rw[yus (ok.2 i i0 i1) hfi (by omega) hp];refine hix.xv i s i0 i1 s0 s1 ?_;have hb2:yaZ (yj b i) (s+6)=false:=by rw[← hb]; exact(ts.b i (s+6) i0 i1 (by omega)).symm
  unfold yad yaf;rw[hfi,hb2]
  have:(i !=b.2.2.2.1||ltb s b.2.2.2.2.1)=true:=by
   rw[Bool.or_eq_true,bne_iff_ne,zj8];rcases hL with e | e<;>omega
  rw[this]; rfl
 ·obtain⟨h1,h3⟩:=old.h i n r i0 i1 hi h2 h6 hr
  exact⟨h1,fun h=>by omega⟩
theorem y2F {K:Int} {V:Int→Int→Int} {b:dA} (h:Ix K V b) (hk:K<60000):Mk (yU (ye b)):=by
 have hc:=yaF b;have hk2:=ykB h.xk;have:=h.xg;have e:=yrB hc
 have hx:yT (yU (ye b)):=by
  have c:=yB3 hc h.xc;obtain⟨c1,c2,c3,c4,c5,c6,c7,c8,c9,c10,c11⟩:=c;refine⟨c1,c2,c3,c4,c5,c6,⟨?_,?_⟩,⟨Int.le_refl _,c8.2⟩,?_,c10,c11⟩
  ·show 0≤(ye b).2.2.2.2.2.1; omega
  ·show(ye b).2.2.2.2.2.1≤60000; omega
  ·show(ye b).2.2.2.2.2.1≤(ye b).2.2.2.2.2.1+4; omega
 exact y2E hx hk2 (by show(ye b).2.2.2.2.2.2.2.1<60000; omega)
structure CoreEq (a b:dA):Prop where
 i:a.1=b.1
 g:a.2.1=b.2.1
 l:a.2.2.2.1=b.2.2.2.1
 u:a.2.2.2.2.1=b.2.2.2.2.1
 s:a.2.2.2.2.2.1=b.2.2.2.2.2.1
 t:a.2.2.2.2.2.2.1=b.2.2.2.2.2.2.1
 e:a.2.2.2.2.2.2.2.1=b.2.2.2.2.2.2.2.1
theorem ybk {a b:dA} (h:yy a=yy b):CoreEq a b:=⟨y4W h,yah h,ynw h,yiN h,yfJ h,yWG h,yrB h⟩
theorem yS4 {K T L B Lf:Int} {R:Int→Int×List Int} {V:Int→Int→Int} {b:dA} {f':Int→Int→List Int} {fl:Int→Bool} (hix:Ix K V b) (hk:K<60000) (hc:Ch (yp b) f') (hfl: ∀i,0≤i→i<b.2.1.1→fl i=false→yG b i=false) (hL:Lf=b.2.2.2.1∨(b.2.2.2.1= -1∧0≤Lf∧Lf<b.2.1.1∧fl Lf=true))
  (old: ∀f,Ch b f→ ∃Bf,Wsup b.1 b.2.1 b.2.2.2.2.2.2.2.1 T L B Lf Bf f fl∧Wdat b.2.1 T b.2.2.2.2.2.1 R V Lf Bf f fl (yK b)):WW (K+1) b.1 b.2.1 V Lf f' fl (yK (yp b)):=by
 have ok:=ybL hix.xk;have hg:=hix.xg;have hs:=hix.xs;have ts:=yIw (-1) (fun _=> []) ok
 have sy: ∀f,Ch (ye b) f→ ∃Bf,Wsup b.1 b.2.1 b.2.2.2.2.2.2.2.1 T L B Lf Bf f fl∧Wdat b.2.1 T b.2.2.2.2.2.1 R V Lf Bf f fl (yK (ye b)):=fun f hf=>by
  obtain⟨Bf,h1,h2⟩:=old f (yLK ok hf);exact⟨Bf,h1,ygw h2 (fun i n i0 i1 hi hn=> .inl ⟨rfl,ts.b i n i0 i1 (by omega)⟩) (fun i n i0 i1 h=>ts.d i n i0 i1 h)⟩
 have ce:=ybk (yaF b);cases hu:ya (ye b)
 ·have e:yp b=yD (yU (ye b)):=by unfold yp; rw[hu]; rfl
  rw[e]at hc ⊢;have hm:=y2F hix hk;obtain⟨c1,c2,c3,c4,c5,c6,c7⟩:=ce;have hC: ∀f,Ch (yU (ye b)) f→Ch (ye b) f:=fun f hf=>hf
  have d0: ∀f,Ch (ye b) f→Wdat b.2.1 b.2.2.2.2.2.1 b.2.2.2.2.2.1 R V Lf b.2.2.2.2.1 f fl (yK (ye b)):=fun f hf=>by
   obtain⟨Bf,h1,h2⟩:=old f (yLK ok hf);exact yVS hix hu hf hfl (hL.imp id (fun h=>h.1)) h2
  have hT:=yYN (a:=yU (ye b)) (T:=T) (L:=L) (B:=B) (Q:=b.2.2.2.2.2.1) (Lf:=Lf) (Lf2:=Lf) (R:=R) (V:=V) (fl:=fl) hm hc (fun i i0 i1 hi=>by
    have i1':i<b.2.1.1:=by rw[← c2]; exact i1
    exact(ts.f i i0 i1').trans (hfl i i0 i1' hi)) (fun f hf=>by
    show ∃Bf,Wsup (ye b).1 (ye b).2.1 (ye b).2.2.2.2.2.2.2.1 T L B Lf Bf f fl∧Wdat (ye b).2.1 T b.2.2.2.2.2.1 R V Lf Bf f fl (yK (ye b))
    rw[c1,c2,c7]; exact sy f hf) (fun f hf=>by
    show Wdat (ye b).2.1 (ye b).2.2.2.2.2.1 b.2.2.2.2.2.1 R V Lf (ye b).2.2.2.2.1 f fl (yK (ye b))
    rw[c2,c4,c5]; exact d0 f hf) (fun f hf i i0 i1 hne=>by
    obtain⟨Bf,h1,_⟩:=sy f hf;have i1':i<b.2.1.1:=by rw[← c2]; exact i1
    show fl i=false∧yfH (ye b).1 (f i)
    rw[c1]; exact h1.u2 i i0 i1' hne) (by
    show Lf=(ye b).2.2.2.1∨((ye b).2.2.2.1= -1∧0≤Lf∧Lf<(ye b).2.1.1∧fl Lf=true)
    rw[c2,c3]; exact hL)
  have hT:(∃Bf,Wsup (ye b).1 (ye b).2.1 (ye b).2.2.2.2.2.2.2.1 T L B Lf Bf f' fl∧Wdat (ye b).2.1 T b.2.2.2.2.2.1 R V Lf Bf f' fl (yK (yD (yU (ye b))))) ∨
   ∃Bf,Wsup (ye b).1 (ye b).2.1 ((ye b).2.2.2.2.2.2.2.1+1) (ye b).2.2.2.2.2.1 (ye b).2.2.2.1 (ye b).2.2.2.2.1 Lf Bf f' fl∧Wdat (ye b).2.1 (ye b).2.2.2.2.2.1 b.2.2.2.2.2.1 R V Lf Bf f' fl (yK (yD (yU (ye b)))):=hT
  rw[c1,c2,c7]at hT;rcases hT with⟨Bf,h1,h2⟩ | ⟨Bf,h1,h2⟩
  ·exact⟨_,_,_,_,_,_,Bf,by omega,by omega,h1,h2⟩
  ·exact⟨_,_,_,_,_,_,Bf,by omega,by omega,h1,h2⟩
 ·have e:yp b=ye b:=by unfold yp; rw[hu]; rfl
  rw[e]at hc ⊢;obtain⟨Bf,h1,h2⟩:=sy f' hc;exact⟨_,_,_,_,_,_,Bf,by omega,by omega,h1,h2⟩
theorem yxT {b:dA} (hk:yI b) {i m:Int} (i0:0≤i) (i1:i<b.2.1.1) (m0:2≤m):yK (yp b) i m=yK b i m∧yG (yp b) i=yG b i:=by
 have ts:=yIw (-1) (fun _=> []) (ybL hk);have hc:=yah (yaF b);have h1:yK (ye b) i m=yK b i m:=ts.b i m i0 i1 (by omega);have h2:=ts.f i i0 i1;unfold yp;cases ya (ye b)
 ·have ok2:yxv (yU (ye b)):=ybL (a:=yU (ye b)) (ykB hk)
  have tm:=yIv ok2;have i1':i<(yU (ye b)).2.1.1:=by show i<(ye b).2.1.1; rw[hc]; exact i1
  have hg:0≤(i64.wrap ((yU (ye b)).2.2.2.2.2.2.2.1+1)).tmod 2∨(i64.wrap ((yU (ye b)).2.2.2.2.2.2.2.1+1)).tmod 2<2:=by omega
  have hlt:(i64.wrap ((yU (ye b)).2.2.2.2.2.2.2.1+1)).tmod 2<2:=by
   have:=Int.tmod_lt_of_pos (i64.wrap ((yU (ye b)).2.2.2.2.2.2.2.1+1)) (show(0:Int)<2 by omega);exact this
  exact⟨(tm.b i m i0 i1' (by omega)).trans h1,(tm.f i i0 i1').trans h2⟩
 ·exact⟨h1,h2⟩
theorem y2X {K T L B Lf:Int} {R:Int→Int×List Int} {V:Int→Int→Int} {b:dA} {f':Int→Int→List Int} {fl:Int→Bool} (hix:Ix K V b) (hz:b.2.2.2.1≠ -1→yG b b.2.2.2.1=true→b.2.2.2.2.1=0) (hk:K<60000) (hu:ya (yp b)=false) (hc:Ch (yp b) f') (hal:Al b.2.2.2.1 b.2.1.1 (yG b) fl Lf)
  (old: ∀f,Ch b f→ ∃Bf,Wsup b.1 b.2.1 b.2.2.2.2.2.2.2.1 T L B b.2.2.2.1 Bf f (yG b)∧Wdat b.2.1 T b.2.2.2.2.2.1 R V b.2.2.2.1 Bf f (yG b) (yK b)) :
  ∃Bf,((Eq0 b fl Lf→Bf=b.2.2.2.2.1)∧(Eq0 b fl Lf→Lf≠ -1→fl Lf=false→yfH b.1 (f' Lf)))∧Wsup b.1 b.2.1 (b.2.2.2.2.2.2.2.1+1) b.2.2.2.2.2.1 b.2.2.2.1 b.2.2.2.2.1 Lf Bf f' fl∧Wdat b.2.1 b.2.2.2.2.2.1 b.2.2.2.2.2.1 R V Lf Bf f' fl (yK (yp b)):=by
 have ok:=ybL hix.xk;have ts:=yIw (-1) (fun _=> []) ok;have ce:=ybk (yaF b);obtain⟨hs,e⟩:=yHX hu;rw[e]at hu hc ⊢;have hm:=y2F hix hk;have six:=yYL (y2z hix hs);obtain⟨c1,c2,c3,c4,c5,c6,c7⟩:=ce;have hfe: ∀i,0≤i→i<b.2.1.1→yG (ye b) i=yG b i:=ts.f
 have d0: ∀f,Ch (ye b) f→Wdat b.2.1 b.2.2.2.2.2.1 b.2.2.2.2.2.1 R V Lf b.2.2.2.2.1 f fl (yK (ye b)):=fun f hf=>by
  obtain⟨Bf,_,h2⟩:=old f (yLK ok hf);have hLf:Lf=b.2.2.2.1∨b.2.2.2.1= -1:=by rcases hal with⟨h,_⟩ | ⟨_,_,h,_⟩<;>omega
  have sub:=fun i i0 i1 hi=>yC0 hal (i:=i) i0 i1 hi
  have w0:=yVS (fl:=yG b) (Lf:=b.2.2.2.1) hix hs hf (fun i _ _ h=>h) (.inl rfl) h2;have q:=w0.q;refine⟨w0.e,w0.q,fun i s i0 i1 s0 s1 hi hl hb hj=> ?_,fun q q0 q1=>by omega,fun i n r i0 i1 hi h2 h6 hr=>w0.h i n r i0 i1 (sub i i0 i1 hi) h2 h6 hr,fun q q0 q1=>by omega,fun q q0 q1=>by omega,fun i n i0 i1 hi hn=>w0.b i n i0 i1 (sub i i0 i1 hi) hn⟩;exact w0.d i s i0 i1 s0 s1 (sub i i0 i1 hi) (by omega) hb hj
 have hD:=yYM (a:=yU (ye b)) (Q:=b.2.2.2.2.2.1) (Lf:=Lf) (R:=R) (V:=V) (fl:=fl) hm hu (fun i i0 i1=>y3b six i0 i1) (fun i i0 i1 hf=>y3a six i0 i1 hf) hc (by
   show Al (ye b).2.2.2.1 (ye b).2.1.1 (yG (ye b)) fl Lf
   rw[c2,c3]; exact yxC hal (fun i i0 i1=>(hfe i i0 i1).symm)) (fun f hf i n s i0 i1 hi hn2 hsv=>by
   have i1':i<b.2.1.1:=by rw[← c2]; exact i1
   obtain⟨Bf,h1,_⟩:=old f (yLK ok hf);have hsv:ywv (ye b).1 n (f i n) s:=hsv;rw[c1]at hsv;obtain⟨g1,g2⟩:=h1.u1 i n s i0 i1' ((hfe i i0 i1').symm.trans hi) hn2 hsv;refine⟨g1,?_⟩;show s.2.1≤(ye b).2.2.2.2.2.2.2.1;rw[c7];rcases g2 with g2 | g2
   ·omega
   ·rw[g2]; exact Int.le_refl _) (fun f hf=>by
   show Wdat (ye b).2.1 (ye b).2.2.2.2.2.1 b.2.2.2.2.2.1 R V Lf (ye b).2.2.2.2.1 f fl (yK (ye b))
   rw[c2,c4,c5]; exact d0 f hf) (by
   show(ye b).2.2.2.1≠ -1→yG (ye b) (ye b).2.2.2.1=true→(ye b).2.2.2.2.1=0;rw[c3,c4];intro h1 h2;have hl:=hix.xc.2.2.2.1;rw[hfe _ (by omega) (by omega)]at h2
   exact hz h1 h2)
 have hD: ∃Bf,((Eq0 (ye b) fl Lf→Bf=(ye b).2.2.2.2.1)∧(Eq0 (ye b) fl Lf→Lf≠ -1→fl Lf=false→yfH (ye b).1 (f' Lf)))∧Wsup (ye b).1 (ye b).2.1 ((ye b).2.2.2.2.2.2.2.1+1) (ye b).2.2.2.2.2.1 (ye b).2.2.2.1 (ye b).2.2.2.2.1 Lf Bf f' fl∧Wdat (ye b).2.1 (ye b).2.2.2.2.2.1 b.2.2.2.2.2.1 R V Lf Bf f' fl (yK (yD (yU (ye b)))):=hD;have he:Eq0 b fl Lf→Eq0 (ye b) fl Lf:=fun h=>⟨by rw[c3]; exact h.1,fun i i0 i1=>by rw[c2]at i1; exact(h.2 i i0 i1).trans (hfe i i0 i1).symm⟩
 rw[c1,c2,c3,c4,c5,c7]at hD;obtain⟨Bf,⟨h1,h2⟩,h3⟩:=hD;exact⟨Bf,⟨fun h=>h1 (he h),fun h=>h2 (he h)⟩,h3⟩
theorem y2K {B0:Int} {V:Int→Int→Int} {a:dA} {R:Int→Int×List Int} (h:yOP R B0 V a) {fl:Int→Bool} {Lf:Int} (hal:Al a.2.2.2.1 a.2.1.1 (yG a) fl Lf) :
  ∀f,Ch a f→ ∃Bf,Wsup a.1 a.2.1 a.2.2.2.2.2.2.2.1 a.2.2.2.2.2.2.1 a.2.2.2.1 B0 Lf Bf f fl∧Wdat a.2.1 a.2.2.2.2.2.2.1 a.2.2.2.2.2.1 R V Lf Bf f fl (yK a):=fun f hf=>by
 obtain⟨Bf,_,h1,h2⟩:=h.2 f fl Lf hf hal;exact⟨Bf,h1,h2⟩
theorem yLG (a:dA):Al a.2.2.2.1 a.2.1.1 (yG a) (yG a) a.2.2.2.1:= .inl ⟨rfl,fun _ _ _=>rfl⟩
theorem y5i {L N Lf:Int} {fl0 fl:Int→Bool} (h:Al L N fl0 fl Lf):Lf=L∨(L= -1∧0≤Lf∧Lf<N∧fl Lf=true):=by
 rcases h with⟨h,_⟩ | ⟨h1,h2,h3,h4⟩
 ·exact .inl h
 ·rcases h3 with h3 | h3
  ·exact .inr ⟨h3,h1,h2,by rw[h4 Lf h1 h2,beq_self_eq_true,Bool.or_true]⟩
  ·exact .inl h3.symm
theorem yBO (b:dA):(yp b).1=b.1∧(yp b).2.1=b.2.1∧(yp b).2.2.2.1=b.2.2.2.1∧(yp b).2.2.2.2.1=b.2.2.2.2.1∧(yp b).2.2.2.2.2.1=b.2.2.2.2.2.1:=by
 obtain⟨c1,c2,c3,c4,c5,_,_⟩:=ybk (yaF b);unfold yp;cases ya (ye b)
 ·obtain⟨d1,d2,d3,d4,d5,_,_⟩:=ybk (yiQ (yU (ye b)))
  exact⟨d1.trans c1,d2.trans c2,d3.trans c3,d4.trans c4,d5.trans c5⟩
 ·exact⟨c1,c2,c3,c4,c5⟩
theorem yYw {b:dA} (hg:0≤b.2.2.2.2.2.2.2.1∧b.2.2.2.2.2.2.2.1<60000) (hu:ya (yp b)=false):(yp b).2.2.2.2.2.2.1=b.2.2.2.2.2.1∧(yp b).2.2.2.2.2.2.2.1=b.2.2.2.2.2.2.2.1+1:=by
 obtain⟨c1,c2,c3,c4,c5,c6,c7⟩:=ybk (yaF b);obtain⟨_,e⟩:=yHX hu;obtain⟨d1,d2,d3,d4,d5,d6,d7⟩:=ybk (yiQ (yU (ye b)));rw[e];refine⟨d6.trans c5,d7.trans ?_⟩;show i64.wrap ((ye b).2.2.2.2.2.2.2.1+1)=_;rw[c7]; exact wr (by omega) (by omega)
theorem y3h {a r:dA} (h:Nb a) (hg:r.2.1=a.2.1) (hl:r.2.2.2.1=a.2.2.2.1) (hb:r.2.2.2.2.1=a.2.2.2.2.1) (hlr: -1≤a.2.2.2.1∧a.2.2.2.1≤a.2.1.1-1) (hd: ∀i m,0≤i→i<a.2.1.1→6≤m→yK r i m=true→yK a i m=true) (hf: ∀i,0≤i→i<a.2.1.1→yG r i=yG a i):Nb r:=by
 refine⟨fun h1 i s i0 i1 hi s0 s1=> ?_,fun h1 h2=> ?_⟩
 ·rw[hl]at h1 hi
  rw[hg]at i1;rw[hb]at s1;cases hx:yK r i (s+6)
  ·rfl
  ·rw[← h.n h1 i s i0 i1 hi s0 s1]; exact(hd i (s+6) i0 i1 (by omega) hx).symm
 ·rw[hl]at h1 h2
  rw[hb];rw[hf _ (by omega) (by omega)]at h2;exact h.z h1 h2
theorem yYv {K T L B:Int} {R:Int→Int×List Int} {V:Int→Int→Int} {b:dA} (hix:Ix K V b) (hz:b.2.2.2.1≠ -1→yG b b.2.2.2.1=true→b.2.2.2.2.1=0) (hk:K+1≤60000) (hu:ya (yp b)=false)
  (old: ∀f,Ch b f→ ∃Bf,Wsup b.1 b.2.1 b.2.2.2.2.2.2.2.1 T L B b.2.2.2.1 Bf f (yG b)∧Wdat b.2.1 T b.2.2.2.2.2.1 R V b.2.2.2.1 Bf f (yG b) (yK b)):yOP R (yp b).2.2.2.2.1 V (yp b):=by
 have c:=hix.xc;unfold yT at c;obtain⟨s1,s2,s3,s4,s5⟩:=yBO b;have hg:=hix.xg;have hfl: ∀i,0≤i→i<b.2.1.1→yG (yp b) i=yG b i:=fun i i0 i1=>(yxT (m:=2) hix.xk i0 i1 (by omega)).2
 obtain⟨t1,t2⟩:=yYw (b:=b) (by omega) hu;refine⟨Int.le_refl _,fun f fl Lf hf hal=> ?_⟩;rw[s2,s3]at hal;have hal2:=yxC hal hfl;obtain⟨Bf,⟨h1,h2⟩,h3⟩:=y2X hix hz (by omega) hu hf hal2 old;have he:Eq0 (yp b) fl Lf→Eq0 b fl Lf:=fun e=>⟨e.1.trans s3,fun i i0 i1=>(e.2 i i0 (by rw[s2]; exact i1)).trans (hfl i i0 i1)⟩
 rw[s1,s2,s3,s4,s5,t1,t2];exact⟨Bf,⟨fun e=>h1 (he e),fun e=>h2 (he e)⟩,h3⟩
theorem y1u {K:Int} {V:Int→Int→Int} {a:dA} (h:Lv K V a) (hk:K+1≤60000) :
  (ya (yp a)=false→Lv (K+1) V (yp a))∧(ya (yp a)=true→Dd (K+1) (· =V) (yp a)):=by
 obtain⟨B0,R,hr⟩:=h.r;have c:=h.x.xc;unfold yT at c;obtain⟨s1,s2,s3,s4,s5⟩:=yBO a;have hfl: ∀i,0≤i→i<a.2.1.1→yG (yp a) i=yG a i:=fun i i0 i1=>(yxT (m:=2) h.x.xk i0 i1 (by omega)).2
 have hg:=h.x.xg;refine⟨fun hu=>⟨yP1 h.x hk hu,⟨_,R,yYv h.x h.n.z hk hu (y2K hr (yLG a))⟩,?_⟩,fun hd f fl Lf hf hal=>⟨V,rfl,?_⟩⟩
 ·exact y3h h.n s2 s3 s4 (by omega) (fun i m i0 i1 m0 hb=>by rw[(yxT h.x.xk i0 i1 (by omega)).1]at hb; exact hb) hfl
 ·rw[s2,s3]at hal
  have hal2:=yxC hal hfl;have:=yS4 h.x (by omega) hf (fun i i0 i1 hi=>yC0 hal2 i0 i1 hi) (y5i hal2) (y2K hr hal2);rw[s1,s2]; exact this
theorem y4s {K:Int} {V:Int→Int→Int} {a:dA} {l:List dW} (h:Lv K V a) (hd:yaT a.2.1 l=true):Lv K V (yxq a l):=⟨yOm h.x hd,h.r,⟨h.n.n,h.n.z⟩⟩
theorem y5u {K:Int} {V:Int→Int→Int} {a:dA} {b n:Int} (h:Lv K V a) (hb:yeP a.2.1 b=true) (hn:isW n=true):Lv K V (yqz a b n).2:=by
 have hi:=y5r h.x hb hn;unfold yqz at hi ⊢;cases hs:(ybI a (yY a.2.1 b)).2
 ·exact h
 ·rw[hs]at hi
  exact⟨hi,h.r,⟨h.n.n,h.n.z⟩⟩
theorem y3V (r:dN):yaw (yac r)=true:=by
 unfold yac;cases h:yW r
 ·rfl
 ·have hr:=ysD.1 h
  refine yyI.2 ⟨?_,fun x hx=> ?_⟩
  ·show(21322::r.1::r.2.1::(r.2.2.length:Int)::r.2.2).length≤12
   simp only[List.length_cons]; omega
  ·have hx:x∈21322::r.1::r.2.1::(r.2.2.length:Int)::r.2.2:=hx
   simp only[List.mem_cons]at hx;rcases hx with hx | hx | hx | hx | hx
   ·omega
   ·omega
   ·omega
   ·omega
   ·exact yoT.1 (yB1.1 hr.2.2.2 x hx)
def Two (V W X:Int→Int→Int):Prop:=X=V∨X=W
theorem yO2 (a:dA):(yv a).1=a.1∧(yv a).2.1=a.2.1∧(yv a).2.2.2.1=a.2.2.2.1∧(yv a).2.2.2.2.1=a.2.2.2.2.1∧(yv a).2.2.2.2.2.1=a.2.2.2.2.2.1:=by
 unfold yv;cases leb 4 (i64.wrap (a.2.2.2.2.2.1-a.2.2.2.2.2.2.1))
 ·exact⟨rfl,rfl,rfl,rfl,rfl⟩
 ·exact yBO a
theorem y5t {K:Int} {V:Int→Int→Int} {a:dA} (h:Lv K V a) (hk:K+1≤60000) :
  (ya (yv a)=false→Lv (K+1) V (yv a))∧(ya (yv a)=true→Dd (K+1) (· =V) (yv a)):=by
 unfold yv;cases leb 4 (i64.wrap (a.2.2.2.2.2.1-a.2.2.2.2.2.2.1))
 ·exact⟨fun _=>ysB h (by omega),fun hd=>by rw[cond_false,h.x.xu]at hd; cases hd⟩
 ·exact y1u h hk
theorem y4V {b:dA} (hk:yI b) {i m:Int} (i0:0≤i) (i1:i<b.2.1.1) (m0:2≤m):yK (yv b) i m=yK b i m∧yG (yv b) i=yG b i:=by
 unfold yv;cases leb 4 (i64.wrap (b.2.2.2.2.2.1-b.2.2.2.2.2.2.1))
 ·exact⟨rfl,rfl⟩
 ·exact yxT hk i0 i1 m0
theorem y4y {K s:Int} {d:List Int} {V:Int→Int→Int} {a:dA} (h:Lv K V a) (h3:a.2.2.2.2.2.1-a.2.2.2.2.2.2.1≤3) (hq:a.2.2.2.2.2.1<60000) (hs:yL a.2.1 s=true) (hl:(d.length:Int)=a.2.1.1-1) (hd:d.all isW=true):Dd (K+1) (Two V (ycc V a.2.1 s d)) (yo a (a.2.2.2.2.2.1,s,d)):=by
 obtain⟨B0,R,hB,hr⟩:=h.r;have ok:=ybL h.x.xk;have hg:=h.x.xg;have hs2:=h.x.xs;have ht:=yLV (a.2.2.2.2.2.1,s,d) ok;have c:=h.x.xc;unfold yT at c;have hsl:=ykv (q:=a.2.2.2.2.2.1) (by omega);obtain⟨c1,c2,c3,c4,c5,c6,c7⟩:=ybk (ya2 a (a.2.2.2.2.2.1,s,d));intro f' fl Lf hf hal;rw[c1,c2];rw[c2,c3]at hal;have hal2:=yxC hal ht.f;obtain⟨f,hf0,hff⟩:=ht.c f' hf;obtain⟨Bf,_,h1,h2⟩:=hr f fl Lf hf0 hal2
 have sup:Wsup a.1 a.2.1 a.2.2.2.2.2.2.2.1 a.2.2.2.2.2.2.1 a.2.2.2.1 B0 Lf Bf f' fl:=ygx h1 (fun i n i0 i1 _ hn=>by
  rcases hff i n i0 i1 (by omega)with e | ⟨e,_⟩
  ·exact e
  ·have:n=yh a.2.2.2.2.2.1:=e
   omega)
 have hb6: ∀i n,0≤i→i<a.2.1.1→6≤n→yK (yo a (a.2.2.2.2.2.1,s,d)) i n=yK a i n:=fun i n i0 i1 h6=>ht.b i n i0 i1 (fun e=>by have:n=yh a.2.2.2.2.2.1:=e; omega)
 have hf2: ∀i n,0≤i→i<a.2.1.1→fl i=false→2≤n→f' i n=f i n∨(n=yh a.2.2.2.2.2.1∧f' i n=yac (a.2.2.2.2.2.1,s,d)):=fun i n i0 i1 _ hn=>hff i n i0 i1 (by omega)
 by_cases hx: ∃i,0≤i∧i<a.2.1.1∧fl i=false∧f' i (yh a.2.2.2.2.2.1)=yac (a.2.2.2.2.2.1,s,d)
 ·exact⟨ycc V a.2.1 s d,.inr rfl,_,_,_,_,_,_,Bf,by omega,by omega,sup,yYY h2 (by omega) hq hs hl hd hf2 hb6 (fun i n i0 i1 hn=>ht.d i n i0 i1 hn) hx⟩
 ·refine⟨V,.inl rfl,_,_,_,_,_,_,Bf,by omega,by omega,sup,ygw h2 (fun i n i0 i1 hi hn=> .inl ?_) (fun i n i0 i1 hn=>ht.d i n i0 i1 hn)⟩
  have hb: ∀k,0≤k→k<6→yK (yo a (a.2.2.2.2.2.1,s,d)) i k=yK a i k:=fun k k0 k6=>by
   have g2:yK a i k=false:=by
    cases hb:yK a i k
    ·rfl
    ·have:=h2.b i k i0 i1 hi hb; omega
   cases hb:yK (yo a (a.2.2.2.2.2.1,s,d)) i k
   ·exact g2.symm
   ·rw[ht.d i k i0 i1 hb]at g2; cases g2
  refine⟨?_,?_⟩
  ·rcases hf2 i n i0 i1 hi hn with e | ⟨e,e2⟩
   ·exact e
   ·exact absurd ⟨i,i0,i1,hi,by rw[← e]; exact e2⟩ hx
  ·by_cases h6:6≤n
   ·exact hb6 i n i0 i1 h6
   ·exact hb n (by omega) (by omega)
theorem y4x {K B0 s:Int} {d:List Int} {V:Int→Int→Int} {R:Int→Int×List Int} {a:dA} (h:Ix K V a) (hB:yOP R B0 V a) (h3:a.2.2.2.2.2.1-a.2.2.2.2.2.2.1≤3) (hq:a.2.2.2.2.2.1<60000) (hs:yL a.2.1 s=true) (hl:(d.length:Int)=a.2.1.1-1) (hd:d.all isW=true) (hu:ya (yo a (a.2.2.2.2.2.1,s,d))=false):yOP (yYm R a.2.2.2.2.2.1 s d) B0 (ycc V a.2.1 s d) (yC (yo a (a.2.2.2.2.2.1,s,d))):=by
 obtain⟨hB,hr⟩:=hB;have ok:=ybL h.xk;have ht:=yLV (a.2.2.2.2.2.1,s,d) ok;have c:=h.xc;unfold yT at c;have hsl:=ykv (q:=a.2.2.2.2.2.1) (by omega);obtain⟨c1,c2,c3,c4,c5,c6,c7⟩:=ybk (ya2 a (a.2.2.2.2.2.1,s,d))
 have hsq:(yC (yo a (a.2.2.2.2.2.1,s,d))).2.2.2.2.2.1=a.2.2.2.2.2.1+1:=by
  show i64.wrap ((yo a (a.2.2.2.2.2.1,s,d)).2.2.2.2.2.1+1)=_;rw[c5]; exact wr (by omega) (by omega)
 refine⟨by show B0≤(yo a (a.2.2.2.2.2.1,s,d)).2.2.2.2.1; rw[c4]; exact hB,fun f' fl Lf hf hal=> ?_⟩;have hf:Ch (yo a (a.2.2.2.2.2.1,s,d)) f':=hf;have hal:Al (yo a (a.2.2.2.2.2.1,s,d)).2.2.2.1 (yo a (a.2.2.2.2.2.1,s,d)).2.1.1 (yG (yo a (a.2.2.2.2.2.1,s,d))) fl Lf:=hal;rw[c2,c3]at hal;have hal2:=yxC hal ht.f;obtain⟨f,hf0,hff⟩:=ht.c f' hf;obtain⟨Bf,⟨p1,p2⟩,h1,h2⟩:=hr f fl Lf hf0 hal2
 have hn01: ∀i n,0≤i→i<a.2.1.1→(n=0∨n=1)→f' i n=f i n:=fun i n i0 i1 hn=>by
  rcases hff i n i0 i1 (by omega)with e | ⟨e,_⟩
  ·exact e
  ·have:n=yh a.2.2.2.2.2.1:=e
   omega
 have sup:Wsup a.1 a.2.1 a.2.2.2.2.2.2.2.1 a.2.2.2.2.2.2.1 a.2.2.2.1 B0 Lf Bf f' fl:=ygx h1 (fun i n i0 i1 _ hn=>hn01 i n i0 i1 hn)
 have he:Eq0 (yC (yo a (a.2.2.2.2.2.1,s,d))) fl Lf→Eq0 a fl Lf:=fun e=>by
  have e1:Lf=(yo a (a.2.2.2.2.2.1,s,d)).2.2.2.1:=e.1;refine⟨e1.trans c3,fun i i0 i1=> ?_⟩;have:=e.2 i i0 (by show i<(yo a (a.2.2.2.2.2.1,s,d)).2.1.1; rw[c2]; exact i1);exact this.trans (ht.f i i0 i1)
 have hlen:=h.xk.1.2
 have two: ∃i,0≤i∧i<a.2.1.1∧i≠Lf:=by
  have hg3:=yl.1 h.xc.1;by_cases h:Lf=0
  ·exact⟨1,by omega,by omega,by omega⟩
  ·exact⟨0,by omega,by omega,fun e=>h e.symm⟩
 obtain⟨j,j0,j1,hj⟩:=two;have hjf:=(h1.u2 j j0 j1 hj).1
 have hx:f' j (yh a.2.2.2.2.2.1)=yac (a.2.2.2.2.2.1,s,d):=by
  have hp:=hf j (yh a.2.2.2.2.2.1) j0 (by rw[c2]; exact j1) (by omega);have hjd:(yj a j).2.2.1=false:=yC0 hal2 j0 j1 hjf;rw[yLS hu j0 (by omega)]at hp;obtain⟨x1,x2⟩:=y3b h j0 j1;have dk:=ydP h.xk j0 j1;have hg3:=yl.1 h.xc.1;have hcw:=yqk (n:=yh a.2.2.2.2.2.1) (s:=yac (a.2.2.2.2.2.1,s,d)) dk.1 hjd (zj4.2 (by omega)) (y3V _) x2;rw[yus (yoS dk.1) ((yFL _ _ _).trans hjd) (by show 0≤yh a.2.2.2.2.2.1; omega) hp];unfold yec;rw[hjd,cond_false];show ycb (yZ (yj a j) (yh a.2.2.2.2.2.1) (yac (a.2.2.2.2.2.1,s,d))).1 _=_;rw[ynx hcw,beq_self_eq_true]; rfl
 have dat:=yYY h2 (by omega) hq hs hl hd (fun i n i0 i1 _ hn=>hff i n i0 i1 (by omega)) (fun i n i0 i1 h6=>ht.b i n i0 i1 (fun e=>by have:n=yh a.2.2.2.2.2.1:=e; omega)) (fun i n i0 i1 hn=>ht.d i n i0 i1 hn) ⟨j,j0,j1,hjf,hx⟩;refine⟨Bf,⟨fun e=>p1 (he e),fun e e1 e2=> ?_⟩,?_,?_⟩
 ·have hown:=p2 (he e) e1 e2
  show yfH (yo a (a.2.2.2.2.2.1,s,d)).1 (f' Lf);rw[c1];obtain⟨n,s',hn,hsv⟩:=hown;have hr2:0≤Lf∧Lf<a.2.1.1:=by have:=(he e).1; omega
  exact⟨n,s',hn,by rw[hn01 Lf n hr2.1 hr2.2 hn]; exact hsv⟩
 ·show Wsup (yo a (a.2.2.2.2.2.1,s,d)).1 (yo a (a.2.2.2.2.2.1,s,d)).2.1 (yo a (a.2.2.2.2.2.1,s,d)).2.2.2.2.2.2.2.1 (yo a (a.2.2.2.2.2.1,s,d)).2.2.2.2.2.2.1 (yo a (a.2.2.2.2.2.1,s,d)).2.2.2.1 B0 Lf Bf f' fl
  rw[c1,c2,c3,c6,c7]; exact sup
 ·rw[hsq]
  show Wdat (yo a (a.2.2.2.2.2.1,s,d)).2.1 (yo a (a.2.2.2.2.2.1,s,d)).2.2.2.2.2.2.1 _ _ _ _ _ _ _ _;rw[c2,c6]; exact dat
theorem y4z {B0 q s:Int} {d:List Int} {V:Int→Int→Int} {R:Int→Int×List Int} {a:dA} (hk:yxv a) (hs:yL a.2.1 s=true) (h:yOP R B0 V a) (q0:a.2.2.2.2.2.2.1≤q) (q1:q<a.2.2.2.2.2.1) (hq:(R q).1=s):yOP R B0 V (yB a s d):=by
 obtain⟨hB,hr⟩:=h;have ht:=yRY s d hk;have h1:=yV.1 hs;have hg:=yl.1 h1.1;have hda:=yiO (s:=s) h1.2.1 (by omega);obtain⟨c1,c2,c3,c4,c5,c6,c7⟩:=ybk (yd7 a s d);refine⟨by rw[c4]; exact hB,fun f' fl Lf hf hal=> ?_⟩;rw[c2,c3]at hal;have hal2:=yxC hal ht.f;obtain⟨f,hf0,hff⟩:=ht.c f' hf;obtain⟨Bf,⟨p1,p2⟩,h1,h2⟩:=hr f fl Lf hf0 hal2
 have hn01: ∀i n,0≤i→i<a.2.1.1→(n=0∨n=1)→f' i n=f i n:=fun i n i0 i1 hn=>by
  rcases hff i n i0 i1 (by omega)with e | ⟨e,_⟩
  ·exact e
  ·omega
 have he:Eq0 (yB a s d) fl Lf→Eq0 a fl Lf:=fun e=>⟨e.1.trans c3,fun i i0 i1=>(e.2 i i0 (by rw[c2]; exact i1)).trans (ht.f i i0 i1)⟩
 rw[c1,c2,c3,c5,c6,c7];refine⟨Bf,⟨fun e=>p1 (he e),fun e e1 e2=> ?_⟩,ygx h1 (fun i n i0 i1 _ hn=>hn01 i n i0 i1 hn),ygw h2 (fun i n i0 i1 hi hn=> ?_) (fun i n i0 i1 hn=>ht.d i n i0 i1 hn)⟩
 ·obtain⟨j,j0,j1,_⟩:=h1.u3
  have hL:=yfk (h1.u0 j j0 j1);have:=(he e).1;obtain⟨n,s',hn,hsv⟩:=p2 (he e) e1 e2;exact⟨n,s',hn,by rw[hn01 Lf n (by omega) (by omega) hn]; exact hsv⟩
 ·by_cases hx:n=yA s
  ·exact .inr (.inl ⟨q,q0,q1,by omega⟩)
  ·rcases hff i n i0 i1 (by omega)with e | ⟨e,_⟩
   ·exact .inl ⟨e,ht.b i n i0 i1 hx⟩
   ·exact absurd e hx
theorem yVO {K B0:Int} {V:Int→Int→Int} {a:dA} (h:Rob B0 V a) (h1:a.2.2.2.2.2.2.2.1≤K) (h2:a.2.2.2.2.2.1≤K):Dd K (· =V) a:=fun f fl Lf hf hal=>by
 obtain⟨R,_,hr⟩:=h;obtain⟨Bf,_,g1,g2⟩:=hr f fl Lf hf hal;exact⟨V,rfl,_,_,_,_,_,R,Bf,h1,h2,g1,g2⟩
theorem yOv (a:dA) (s:Int) (d:List Int):(yz a s d).2.1=a.1∧(yz a s d).2.2.1=a.2.1∧(yz a s d).2.2.2.2.1=a.2.2.2.1∧(yz a s d).2.2.2.2.2.1=a.2.2.2.2.1:=by
 obtain⟨e1,e2,e3,e4,_⟩:=yO2 a;obtain⟨c1,c2,c3,c4,_,_,_⟩:=ybk (ya2 (yv a) ((yv a).2.2.2.2.2.1,s,d));unfold yz;generalize yo (yv a) ((yv a).2.2.2.2.2.1,s,d)=R at c1 c2 c3 c4 ⊢;obtain⟨g1,g2,g3,g4,_,_,_⟩:=ybk (yd7 (yC R) s d);generalize yB (yC R) s d=Q at g1 g2 g3 g4 ⊢;cases ya (yv a)
 ·cases ya R
  ·exact⟨(g1.trans c1).trans e1,(g2.trans c2).trans e2,(g3.trans c3).trans e3,(g4.trans c4).trans e4⟩
  ·exact⟨c1.trans e1,c2.trans e2,c3.trans e3,c4.trans e4⟩
 ·exact⟨e1,e2,e3,e4⟩
theorem yY0 {a:dA} {s:Int} {d:List Int} (hk:yI a) (hs:yL a.2.1 s=true) (hq:0≤a.2.2.2.2.2.1) {i m:Int} (i0:0≤i) (i1:i<a.2.1.1) (m0:6≤m):(yK (yz a s d).2 i m=true→yK a i m=true)∧yG (yz a s d).2 i=yG a i:=by
 have hkc:yI (yv a):=by
  unfold yv;cases leb 4 (i64.wrap (a.2.2.2.2.2.1-a.2.2.2.2.2.2.1))
  ·exact hk
  ·exact yBU hk
 obtain⟨e1,e2,e3,e4,e5⟩:=yO2 a;have hc:=y4V (m:=m) hk i0 i1 (by omega);have i1c:i<(yv a).2.1.1:=by rw[e2]; exact i1
 have hr:=yLV ((yv a).2.2.2.2.2.1,s,d) (ybL hkc);have hkr:=ywZ ((yv a).2.2.2.2.2.1,s,d) hkc;have hrb:=hr.d i m i0 i1c;have hrf:=hr.f i i0 i1c;unfold yz;generalize yo (yv a) ((yv a).2.2.2.2.2.1,s,d)=R at hr hkr hrb hrf ⊢;have hd:=yRY (a:=yC R) s d (ybL (a:=yC R) hkr);have i1r:i<(yC R).2.1.1:=by show i<R.2.1.1; rw[hr.g]; exact i1c
 have hdb:=hd.d i m i0 i1r;have hdf:=hd.f i i0 i1r;generalize yB (yC R) s d=Q at hdb hdf ⊢;cases ya (yv a)
 ·cases ya R
  ·exact⟨fun h=>by have:=hrb (hdb h); rw[hc.1]at this; exact this,(hdf.trans hrf).trans hc.2⟩
  ·exact⟨fun h=>by have:=hrb h; rw[hc.1]at this; exact this,hrf.trans hc.2⟩
 ·exact⟨fun h=>by have:yK (yv a) i m=true:=h; rw[hc.1]at this; exact this,hc.2⟩
theorem y4A {K s:Int} {d:List Int} {V:Int→Int→Int} {C:dA} (lc:Lv K V C) (h3:C.2.2.2.2.2.1-C.2.2.2.2.2.2.1≤3) (hq:C.2.2.2.2.2.1<60000) (hs:yL C.2.1 s=true) (hl:(d.length:Int)=C.2.1.1-1) (hd:d.all isW=true) (hr:ya (yo C (C.2.2.2.2.2.1,s,d))=false) :
  (∃B0,Rob B0 (ycc V C.2.1 s d) (yB (yC (yo C (C.2.2.2.2.2.1,s,d))) s d))∧Dd (K+1) (· =ycc V C.2.1 s d) (yB (yC (yo C (C.2.2.2.2.2.1,s,d))) s d):=by
 obtain⟨B0,R,hR⟩:=lc.r;have rd:=y4x lc.x hR h3 hq hs hl hd hr;have c:=ybk (ya2 C (C.2.2.2.2.2.1,s,d));have kp:=ywZ (C.2.2.2.2.2.1,s,d) lc.x.xk;have lcx:=lc.x.xc;unfold yT at lcx;have hg:=lc.x.xg;have hx:=lc.x.xs;generalize yo C (C.2.2.2.2.2.1,s,d)=P at rd c kp;have e5:=c.s
 have hsq:(yC P).2.2.2.2.2.1=C.2.2.2.2.2.1+1:=by
  show i64.wrap (P.2.2.2.2.2.1+1)=_;rw[e5]; exact wr (by omega) (by omega)
 have hsg:(yC P).2.1=C.2.1:=c.g;have hst:(yC P).2.2.2.2.2.2.1=C.2.2.2.2.2.2.1:=c.t;have hse:(yC P).2.2.2.2.2.2.2.1=C.2.2.2.2.2.2.2.1:=c.e;have kp2:yI (yC P):=kp;generalize yC P=U at rd hsq hsg hst hse kp2;have rr:=y4z (d:=d) (q:=C.2.2.2.2.2.1) (ybL kp2) (by rw[hsg]; exact hs) rd (by omega) (by omega) (by rw[yxo]);have g:=ybk (yd7 U s d);have g5:=g.s;have g7:=g.e;exact⟨⟨B0,_,rr⟩,yVO ⟨_,rr⟩ (by omega) (by omega)⟩
theorem y1x {K s:Int} {d:List Int} {V:Int→Int→Int} {a:dA} (h:Lv K V a) (hs:yL a.2.1 s=true) (hl:(d.length:Int)=a.2.1.1-1) (hd:d.all isW=true) (hq:a.2.2.2.2.2.1<60000) (hk:K+1≤60000) :
  (ya (yz a s d).2=false→Lv (K+2) (ycc V a.2.1 s d) (yz a s d).2∧(yz a s d).1=0)∧(ya (yz a s d).2=true→Dd (K+2) (Two V (ycc V a.2.1 s d)) (yz a s d).2∧(yz a s d).1≠0):=by
 have c:=h.x.xc;unfold yT at c;obtain⟨w1,w2,w3,w4⟩:=yOv a s d;have hb:=fun i m i0 i1 m0=>yY0 (s:=s) (d:=d) h.x.xk hs (by omega) (i:=i) (m:=m) i0 i1 m0
 have up:=fun hu=>y4q h.x hs hl hd hq hk hu
 have key:(ya (yz a s d).2=false→ ∃B0,Rob B0 (ycc V a.2.1 s d) (yz a s d).2)∧(ya (yz a s d).2=true→Dd (K+2) (Two V (ycc V a.2.1 s d)) (yz a s d).2∧(yz a s d).1≠0):=by
  obtain⟨e1,e2,e3,e4,e5⟩:=yO2 a;have l1:=y5t h hk;have l3:=fun hc=>(y3M h.x hk hc).2.2
  unfold yz;generalize yv a=C at e1 e2 e3 e4 e5 l1 l3;cases hc:ya C
  ·have lc:=l1.1 hc
   have h3:=l3 hc;have rr:=y4A (s:=s) (d:=d) lc h3 (by omega) (by rw[e2]; exact hs) (by rw[e2]; exact hl) hd;have rt:=y4y lc h3 (by omega) (by rw[e2]; exact hs) (by rw[e2]; exact hl) hd;rw[e2]at rr rt;generalize yo C (C.2.2.2.2.2.1,s,d)=P at rr rt;cases hr:ya P
   ·obtain⟨r1,r2⟩:=rr hr
    generalize yB (yC P) s d=Q at r1 r2;refine⟨fun _=>r1,fun hu=>⟨ylP r2 (by omega) (fun X hX=> .inr hX),?_⟩⟩;have hu:ya Q=true:=hu;show(bif ya Q then(6:Int)else 0)≠0;rw[hu]; decide
   ·exact⟨(fun hu=>by have hu:ya P=false:=hu; rw[hr]at hu; cases hu),fun _=>⟨ylP rt (by omega) (fun X hX=>hX),by show(6:Int)≠0; decide⟩⟩
  ·exact⟨(fun hu=>by have hu:ya C=false:=hu; rw[hc]at hu; cases hu),fun _=>⟨ylP (l1.2 hc) (by omega) (fun X hX=> .inl hX),by show(6:Int)≠0; decide⟩⟩
 generalize yz a s d=W at w1 w2 w3 w4 hb up key;refine⟨fun hu=>⟨⟨(up hu).1,key.1 hu,?_⟩,(up hu).2⟩,key.2⟩;exact y3h h.n w2 w3 w4 (by omega) (fun i m i0 i1 m0=>(hb i m i0 i1 m0).1) (fun i i0 i1=>(hb i 6 i0 i1 (by omega)).2)
theorem y2D {K T L B:Int} {R:Int→Int×List Int} {V:Int→Int→Int} {A:dA} (hx:Ix K V A) (hn:Nb A) (hk:K+1≤60000)
  (old: ∀f fl Lf,Ch A f→Al A.2.2.2.1 A.2.1.1 (yG A) fl Lf→ ∃Bf,Wsup A.1 A.2.1 A.2.2.2.2.2.2.2.1 T L B Lf Bf f fl∧Wdat A.2.1 T A.2.2.2.2.2.1 R V Lf Bf f fl (yK A))
  (new: ∀f fl Lf,Ch A f→Al A.2.2.2.1 A.2.1.1 (yG A) fl Lf→Wdat A.2.1 A.2.2.2.2.2.2.1 A.2.2.2.2.2.1 R V Lf A.2.2.2.2.1 f fl (yK A)) :
  (ya (yD A)=false→Lv (K+1) V (yD A))∧(ya (yD A)=true→Dd (K+1) (· =V) (yD A)):=by
 have hxg:=hx.xg;have hxs:=hx.xs;have hm:Mk A:=y2E hx.xc hx.xk (by omega);have hmn:=hm.n;have hml:=hm.l;have ht:=yIv hm.k;obtain⟨c1,c2,c3,c4,c5,c6,c7⟩:=ybk (yiQ A);have d1:(yat A).1=A.1:=rfl;have c7':(yD A).2.2.2.2.2.2.2.1=A.2.2.2.2.2.2.2.1+1:=by rw[c7]; exact wr (by omega) (by omega)
 have c1:(yD A).1=A.1:=c1;have c2:(yD A).2.1=A.2.1:=c2;have c3:(yD A).2.2.2.1=A.2.2.2.1:=c3;have c4:(yD A).2.2.2.2.1=A.2.2.2.2.1:=c4;have c5:(yD A).2.2.2.2.2.1=A.2.2.2.2.2.1:=c5;have c6:(yD A).2.2.2.2.2.2.1=A.2.2.2.2.2.2.1:=c6;have hmod:(i64.wrap (A.2.2.2.2.2.2.2.1+1)).tmod 2<2:=Int.tmod_lt_of_pos _ (by omega);have hb: ∀i m,0≤i→i<A.2.1.1→6≤m→yK (yD A) i m=true→yK A i m=true:=fun i m i0 i1 _=>ht.d i m i0 i1
 refine⟨fun hu=>⟨y2y hx hk hu,⟨A.2.2.2.2.1,R,by rw[c4]; exact Int.le_refl _,fun f fl Lf hf hal=> ?_⟩,y3h hn c2 c3 c4 hml hb ht.f⟩,fun _ f fl Lf hf hal=>⟨V,rfl,?_⟩⟩
 ·rw[c2,c3]at hal
  have hal2:=yxC hal ht.f
  obtain⟨Bf,⟨h1,h2⟩,h3⟩:=yYM hm hu (fun i i0 i1=>y3b hx i0 i1) (fun i i0 i1 h=>y3a hx i0 i1 h) hf hal2 (fun f hf i n s i0 i1 hi hn2 hsv=>by
   obtain⟨Bf,g1,_⟩:=old f (yG A) A.2.2.2.1 hf (yLG A);obtain⟨k1,k2⟩:=g1.u1 i n s i0 i1 hi hn2 hsv;refine⟨k1,?_⟩;rcases k2 with k2 | k2
   ·omega
   ·rw[k2]; exact Int.le_refl _) (fun f hf=>new f fl Lf hf hal2) hn.z
  have he:Eq0 (yD A) fl Lf→Eq0 A fl Lf:=fun e=>⟨e.1.trans c3,fun i i0 i1=>(e.2 i i0 (by rw[c2]; exact i1)).trans (ht.f i i0 i1)⟩
  rw[c1,c2,c3,c5,c6,c7'];exact⟨Bf,⟨fun e=>h1 (he e),fun e=>h2 (he e)⟩,h3⟩
 ·rw[c2,c3]at hal
  have hal2:=yxC hal ht.f
  have hT:=yYN (T:=T) (L:=L) (B:=B) (Q:=A.2.2.2.2.2.1) (Lf:=Lf) (Lf2:=Lf) (R:=R) (V:=V) hm hf (fun i i0 i1 hi=>yC0 hal2 i0 i1 hi) (fun f hf=>old f fl Lf hf hal2) (fun f hf=>new f fl Lf hf hal2) (fun f hf i i0 i1 hne=>by
   obtain⟨Bf,g1,_⟩:=old f fl Lf hf hal2
   exact g1.u2 i i0 i1 hne) (y5i hal2)
  rw[c1,c2];rcases hT with⟨Bf,h1,h2⟩ | ⟨Bf,h1,h2⟩
  ·exact⟨_,_,_,_,_,R,Bf,by omega,by omega,h1,h2⟩
  ·exact⟨_,_,_,_,_,R,Bf,by omega,by omega,h1,h2⟩
theorem y3T {m:dM} {k:Int} {v:List Int} (h:ynn (yft m) k v):ynn m k v:=by
 rcases h with h | ⟨w,hw,_⟩
 ·exact .inl h
 ·cases hw
theorem y47 {K m:Int} {V:Int→Int→Int} {a:dA} (h:Lv K V a) (hl:a.2.2.2.1= -1) (hm:inb m a.2.2.1.length=true) (hk:K+1≤60000) :
  (ya (yhK a m)=false→Lv (K+1) V (yhK a m))∧(ya (yhK a m)=true→Dd (K+1) (· =V) (yhK a m)):=by
 rw[y4Z h.x (.inl hl) hk];have hmi:=zj4.1 hm;have hlen:=h.x.xk.1.2;have hx:=y2e h.x (.inl hl) hm;have hd: ∀i,0≤i→yj (yau a m) i=bif m==i then yft (yj a m)else yj a i:=fun i i0=>yJY m _ hm i0
 have hfl: ∀i,0≤i→yG (yau a m) i=(yG a i||i==m):=fun i i0=>by
  unfold yG;rw[hd i i0];by_cases e:m=i
  ·subst e; rw[beq_self_eq_true,Bool.or_true]; rfl
  ·rw[show(m==i)=false from beq_eq_false_iff_ne.2 e,show(i==m)=false from beq_eq_false_iff_ne.2 (fun e2=>e e2.symm),Bool.or_false]; rfl
 have hbd: ∀i n,0≤i→yK (yau a m) i n=yK a i n:=fun i n i0=>by
  unfold yK;rw[hd i i0];by_cases e:m=i
  ·subst e; rw[beq_self_eq_true]; rfl
  ·rw[show(m==i)=false from beq_eq_false_iff_ne.2 e]; rfl
 have hch: ∀f,Ch (yau a m) f→Ch a f:=fun f hf i n i0 i1 n0=>by
  have:=hf i n i0 i1 n0;rw[hd i i0]at this;by_cases e:m=i
  ·subst e; rw[beq_self_eq_true]at this; exact y3T this
  ·rw[show(m==i)=false from beq_eq_false_iff_ne.2 e]at this; exact this
 obtain⟨B0,R,hB,hr⟩:=h.r
 have key: ∀f fl Lf,Ch (yau a m) f→Al m a.2.1.1 (yG (yau a m)) fl Lf→Wsup a.1 a.2.1 a.2.2.2.2.2.2.2.1 a.2.2.2.2.2.2.1 a.2.2.2.1 B0 Lf 0 f fl∧Wdat a.2.1 a.2.2.2.2.2.2.1 a.2.2.2.2.2.1 R V Lf 0 f fl (yK (yau a m)):=fun f fl Lf hf hal=>by
  have hal2:Al a.2.2.2.1 a.2.1.1 (yG a) fl Lf:=by
   rcases hal with⟨h1,h2⟩ | ⟨h1,h2,h3,h4⟩
   ·exact .inr ⟨by omega,by omega,.inl hl,fun i i0 i1=>by rw[h2 i i0 i1,hfl i i0,h1]⟩
   ·have:m=Lf:=by omega
    refine .inr ⟨h1,h2,.inl hl,fun i i0 i1=> ?_⟩;rw[h4 i i0 i1,hfl i i0,this];cases yG a i<;>cases(i==Lf)<;>rfl
  have hLf:Lf=m:=by rcases hal with⟨h1,_⟩ | ⟨_,_,h3,_⟩<;>omega
  obtain⟨Bf,_,h1,h2⟩:=hr f fl Lf (hch f hf) hal2;have hB0:Bf=0:=by rcases h1.u4 with⟨h3,_⟩ | ⟨_,_,_,_,h3⟩<;>omega
  subst hB0;exact⟨h1,ygw h2 (fun i n i0 i1 _ _=> .inl ⟨rfl,hbd i n i0⟩) (fun i n i0 i1 hb=>by rw[hbd i n i0]at hb; exact hb)⟩
 exact y2D (T:=a.2.2.2.2.2.2.1) (L:=a.2.2.2.1) (B:=B0) (R:=R) hx ⟨fun _ i s _ _ _ s0 s1=>absurd s1 (by show ¬s<0; omega),fun _ _=>rfl⟩ hk (fun f fl Lf hf hal=>⟨0,key f fl Lf hf hal⟩) (fun f fl Lf hf hal=>(key f fl Lf hf hal).2)
theorem yHj:(yeB []).2=false∧(yaB []).2=false:=⟨by unfold yeB; rfl,by unfold yaB; rfl⟩
theorem y4w (n:Nat) (k:Int):nth (List.replicate n ([]:List Int)) k []= []:=by
 unfold nth;rw[List.getD_eq_getElem?_getD,List.getElem?_replicate];split<;>rfl
theorem y4t {K:Int} {V:Int→Int→Int} {a:dA} (h:Lv K V a) (hm:inb a.2.2.2.1 a.2.2.1.length=true) (hf0:(nth a.2.2.1 a.2.2.2.1 yc).2.2.1=true) (hk:K+1≤60000) :
  (ya (yD (yaa a))=false→Lv (K+1) V (yD (yaa a)))∧(ya (yD (yaa a))=true→Dd (K+1) (· =V) (yD (yaa a))):=by
 have hmi:=zj4.1 hm;have hlen:=h.x.xk.1.2;have hg:=yl.1 h.x.xc.1;have hx:=y2f h.x hm;have hLt:yG a a.2.2.2.1=true:=hf0;have hd: ∀i,0≤i→yj (yaa a) i=bif a.2.2.2.1==i then ya5 (6+a.2.1.2)else yj a i:=fun i i0=>yJY a.2.2.2.1 _ hm i0
 have hdo: ∀i,0≤i→i≠a.2.2.2.1→yj (yaa a) i=yj a i:=fun i i0 hi=>by rw[hd i i0,show(a.2.2.2.1==i)=false from beq_eq_false_iff_ne.2 (fun e=>hi e.symm)]; rfl
 have hdl:yj (yaa a) a.2.2.2.1=(List.replicate (6+a.2.1.2).toNat [],[],false,[]):=by rw[hd _ hmi.1,beq_self_eq_true,cond_true,ysC hg.2]
 have hlf:yG (yaa a) a.2.2.2.1=false:=by unfold yG; rw[hdl]
 have hlb: ∀n,yK (yaa a) a.2.2.2.1 n=false:=fun n=>by unfold yK; rw[hdl]; rfl
 obtain⟨B0,R,hB,hr⟩:=h.r
 have key: ∀f fl Lf,Ch (yaa a) f→Al a.2.2.2.1 a.2.1.1 (yG (yaa a)) fl Lf→Wsup a.1 a.2.1 a.2.2.2.2.2.2.2.1 a.2.2.2.2.2.2.1 a.2.2.2.1 B0 Lf 0 f fl∧Wdat a.2.1 a.2.2.2.2.2.2.1 a.2.2.2.2.2.1 R V Lf 0 f fl (yK (yaa a)):=fun f fl Lf hf hal=>by
  have hLf:Lf=a.2.2.2.1:=by rcases hal with⟨h1,_⟩ | ⟨_,_,h3,_⟩<;>omega
  subst hLf
  have hfn: ∀n,0≤n→f a.2.2.2.1 n= []:=fun n n0=>by
   rcases hf a.2.2.2.1 n hmi.1 (by show a.2.2.2.1<a.2.1.1; omega) n0 with h1 | ⟨w,hw,_⟩
   ·rw[h1,hdl]; exact y4w _ _
   ·rw[hdl]at hw; cases hw
  have hfe: ∀i,0≤i→i<a.2.1.1→i≠a.2.2.2.1→fl i=yG a i:=fun i i0 i1 hi=>by
   have e:yG (yaa a) i=yG a i:=by unfold yG; rw[hdo i i0 hi]
   rcases hal with⟨_,h2⟩ | ⟨_,_,_,h2⟩
   ·rw[h2 i i0 i1,e]
   ·rw[h2 i i0 i1,e,show(i==a.2.2.2.1)=false from beq_eq_false_iff_ne.2 hi,Bool.or_false]
  obtain⟨f0,hf0d⟩: ∃f0:Int→Int→List Int,f0=fun i n=>if i=a.2.2.2.1 then ycb (yj a a.2.2.2.1) n else f i n:=⟨_,rfl⟩
  have hf0e: ∀i n,i≠a.2.2.2.1→f0 i n=f i n:=fun i n hi=>by rw[hf0d]; exact if_neg hi
  have hch:Ch a f0:=fun i n i0 i1 n0=>by
   by_cases e:i=a.2.2.2.1
   ·rw[hf0d]; simp only[if_pos e]; rw[e]; exact ywW _ _
   ·rw[hf0e i n e]
    have:=hf i n i0 i1 n0;rw[hdo i i0 e]at this; exact this
  obtain⟨Bf,_,h1,h2⟩:=hr f0 (yG a) a.2.2.2.1 hch (yLG a)
  have hB0:Bf=0:=by
   rcases h1.u4 with⟨_,_,h3⟩ | ⟨_,_,_,_,h3⟩
   ·rcases h3 with h3 | ⟨h3,_⟩
    ·omega
    ·rw[hLt]at h3; cases h3
   ·exact h3
  subst hB0;have nf: ∀i,0≤i→i<a.2.1.1→yG a i=false→i≠a.2.2.2.1:=fun i _ _ hi e=>by rw[e,hLt]at hi; cases hi
  have nown: ¬(fl a.2.2.2.1=false∧yfH a.1 (f a.2.2.2.1)):=fun⟨_,n,s,hn,hs⟩=>by
   have:=hs.1;rw[hfn n (by omega)]at this;have h2:=yHj.1;rw[this]at h2; cases h2
  refine⟨⟨h1.u0,fun i n s i0 i1 hi hn hs=> ?_,fun i i0 i1 hne=> ?_,?_,.inr ⟨hmi.1,by omega,nown,.inr rfl,rfl⟩⟩,⟨h2.e,h2.q,fun i s i0 i1 s0 s1 hi hlv hb hj=> ?_,fun q q0 q1=> ?_,fun i n r i0 i1 hi h3 h6 hgr=> ?_,h2.v,h2.l,fun i n i0 i1 hi hb=> ?_⟩⟩
  ·by_cases e:i=a.2.2.2.1
   ·subst e
    have:=hs.1;rw[hfn n (by omega)]at this;have h2:=yHj.1;rw[this]at h2; cases h2
   ·exact h1.u1 i n s i0 i1 ((hfe i i0 i1 e).symm.trans hi) hn (by rw[hf0e i n e]; exact hs)
  ·obtain⟨k1,n,s,hn,hs⟩:=h1.u2 i i0 i1 hne
   exact⟨(hfe i i0 i1 hne).trans k1,n,s,hn,by rw[← hf0e i n hne]; exact hs⟩
  ·obtain⟨i,i0,i1,hi,e⟩:=h1.u3
   have hne:=nf i i0 i1 hi;exact⟨i,i0,i1,(hfe i i0 i1 hne).trans hi,by rw[← hf0e i _ hne]; exact e⟩
  ·have hne:i≠a.2.2.2.1:=by omega
   rw[← hf0e i _ hne];refine h2.d i s i0 i1 s0 s1 ((hfe i i0 i1 hne).symm.trans hi) hlv ?_ hj;unfold yK at hb ⊢;rw[hdo i i0 hne]at hb; exact hb
  ·obtain⟨i,i0,i1,hi,e⟩:=h2.r q q0 q1
   have hne:=nf i i0 i1 hi;exact⟨i,i0,i1,(hfe i i0 i1 hne).trans hi,by rw[← hf0e i _ hne]; exact e⟩
  ·by_cases e:i=a.2.2.2.1
   ·subst e
    rw[hfn n (by omega)]at hgr;have h2:=yHj.2;rw[hgr]at h2; cases h2
   ·exact h2.h i n r i0 i1 ((hfe i i0 i1 e).symm.trans hi) h3 h6 (by rw[hf0e i n e]; exact hgr)
  ·by_cases e:i=a.2.2.2.1
   ·subst e; rw[hlb n]at hb; cases hb
   ·refine h2.b i n i0 i1 ((hfe i i0 i1 e).symm.trans hi) ?_
    unfold yK at hb ⊢;rw[hdo i i0 e]at hb; exact hb
 exact y2D (T:=a.2.2.2.2.2.2.1) (L:=a.2.2.2.1) (B:=B0) (R:=R) hx ⟨fun _ i s _ _ _ s0 s1=>absurd s1 (by show ¬s<0; omega),fun _ _=>rfl⟩ hk (fun f fl Lf hf hal=>⟨0,key f fl Lf hf hal⟩) (fun f fl Lf hf hal=>(key f fl Lf hf hal).2)
theorem y3N {id:Int} {g:dG} (hg:yd g=true) (h1:1≤id) (h2:id≤60000):Lv 0 (fun _ _=>0) (yer id g):=by
 have hge:=yl.1 hg;have hd: ∀i,0≤i→i<g.1→yj (yer id g) i=yQ id g i:=fun i i0 i1=>y3R hg h1 h2 i0 i1
 have e:=yE1 hg h1 h2;have hx:=y5p hg h1 h2;have hfl: ∀i,0≤i→i<g.1→yG (yer id g) i=false:=fun i i0 i1=>by unfold yG; rw[hd i i0 i1,(yo1 id i hg).2.2]
 have hbd: ∀i n,0≤i→i<g.1→yK (yer id g) i n=false:=fun i n i0 i1=>by unfold yK yaZ; rw[hd i i0 i1,(yo1 id i hg).2.2]; rfl
 have hpo: ∀i n v,0≤i→i<g.1→0≤n→ynn (yj (yer id g) i) n v→v=bif leb 6 n&&ltb n (6+g.2)then[0]else bif n==0 then ym (yeM id g 0 0 (-1) 0 i)else[]:=fun i n v i0 i1 n0 h=>by
  have hn:=yOp (id:=id) (i:=i) hg g.2.toNat (Nat.le_refl _) n n0;rw[hd i i0 i1]at h;rcases h with h | ⟨w,hw,_⟩
  ·have h:v=nth ((List.range g.2.toNat).foldl yo0 (yi2 id g i)).1 n []:=h
   rw[h,hn,show((g.2.toNat:Nat):Int)=g.2 by omega]; rfl
  ·rw[(yo1 id i hg).2.2]at hw; cases hw
 refine⟨hx,⟨0,fun _=>(0,[]),by rw[e]; exact Int.le_refl _,fun f fl Lf hf hal=> ?_⟩,⟨fun hn=>absurd (by rw[e]) hn,fun hn=>absurd (by rw[e]) hn⟩⟩;generalize hA:yer id g=A at *;have a1:A.1=id:=by rw[e]
 have a2:A.2.1=g:=by rw[e]
 have a3:A.2.2.2.1= -1:=by rw[e]
 have a5:A.2.2.2.2.2.1=0:=by rw[e]
 have a6:A.2.2.2.2.2.2.1=0:=by rw[e]
 have a7:A.2.2.2.2.2.2.2.1=0:=by rw[e]
 have a4:A.2.2.2.2.1=0:=by rw[e]
 rw[a2,a3]at hal;have hf2: ∀i n,0≤i→i<g.1→0≤n→f i n=bif leb 6 n&&ltb n (6+g.2)then[0]else bif n==0 then ym (yeM id g 0 0 (-1) 0 i)else[]:=fun i n i0 i1 n0=>hpo i n _ i0 i1 n0 (hf i n i0 (by rw[a2]; exact i1) n0)
 have f0: ∀i,0≤i→i<g.1→f i 0=ym (yeM id g 0 0 (-1) 0 i):=fun i i0 i1=>by rw[hf2 i 0 i0 i1 (Int.le_refl _)]; rfl
 have fn: ∀i n,0≤i→i<g.1→1≤n→n<6→f i n= []:=fun i n i0 i1 h1 h6=>by
  rw[hf2 i n i0 i1 (by omega),zkZ (show n<6 by omega),show(n==0)=false from beq_eq_false_iff_ne.2 (by omega)]; rfl
 have hok: ∀i,0≤i→i<g.1→yH (yeM id g 0 0 (-1) 0 i)=true:=fun i i0 i1=>y1R (by omega) hg ⟨h1,h2⟩ (by omega) (by omega) (by omega) (.inr rfl) i0 i1
 have nf: ∀i,0≤i→i<g.1→i≠Lf→fl i=false:=fun i i0 i1 hne=>y4S hal (fun i i0 i1 h=>by rw[hfl i i0 i1]at h; cases h) i0 i1 hne
 have own: ∀i,0≤i→i<g.1→yfH id (f i):=fun i i0 i1=>⟨0,_,.inl rfl,by rw[f0 i i0 i1]; exact yxt (hok i i0 i1)⟩
 rw[a1,a2,a3,a5,a6,a7];refine⟨0,⟨fun _=>rfl,fun e1 e2=>absurd (e1.1.trans a3) e2⟩,⟨hok,fun i n s i0 i1 hi hn hs=> ?_,fun i i0 i1 hne=>⟨nf i i0 i1 hne,own i i0 i1⟩,?_,?_⟩,⟨y1l g,by omega,fun i s i0 i1 s0 s1 hi hlv hb hj=> ?_,fun q q0 q1=>by omega,fun i n r i0 i1 hi n2 n6 hr=> ?_,fun q q0 q1=>by omega,fun q q0 q1=>by omega,fun i n i0 i1 hi hb=>by rw[hbd i n i0 i1]at hb; cases hb⟩⟩
 ·rcases hn with rfl | rfl
  ·have hs1:=hs.1
   rw[f0 i i0 i1,yIG (hok i i0 i1)]at hs1;have:=congrArg (fun x=>x.1) hs1;simp only at this;subst this;exact⟨rfl,.inr rfl⟩
  ·have hs1:=hs.1
   rw[fn i 1 i0 i1 (by omega) (by omega)]at hs1;have h3:=yHj.1;rw[hs1]at h3; cases h3
 ·by_cases h:Lf=0
  ·exact⟨1,by omega,by omega,nf 1 (by omega) (by omega) (by omega),f0 1 (by omega) (by omega)⟩
  ·exact⟨0,by omega,by omega,nf 0 (by omega) (by omega) (fun e=>h e.symm),f0 0 (by omega) (by omega)⟩
 ·rcases hal with⟨h3,_⟩ | ⟨h3,h4,h5,h6⟩
  ·exact .inl ⟨h3,rfl,.inl h3⟩
  ·refine .inr ⟨h3,h4,fun h=> ?_,.inl rfl,rfl⟩
   have:=h.1;rw[h6 Lf h3 h4,beq_self_eq_true,Bool.or_true]at this; cases this
 ·rw[hf2 i (s+6) i0 i1 (by omega),zk0 (show 6≤s+6 by omega),zkw (show s+6<6+g.2 by omega)]; rfl
 ·rw[fn i n i0 i1 (by omega) n6]at hr
  have h3:=yHj.2;rw[hr]at h3; cases h3
theorem yGt (ok:Nat→Bool) (c:Nat→dS): ∀n,let r:=(List.range n).foldl (fun s (i:Nat)=>ylq s (ok i) (c i)) (yeE,false)
  (r.2=true→ ∃i,i<n∧ok i=true∧r.1=c i)∧ ∀i,i<n→ok i=true→r.2=true∧(c i).2.1≤r.1.2.1
 | 0=>⟨fun h=>(by cases h),fun i hi=>absurd hi (Nat.not_lt_zero _)⟩
 | n+1=>by
  have ih:=yGt ok c n;simp only at ih ⊢;rw[List.range_succ,List.foldl_append,List.foldl_cons,List.foldl_nil];generalize (List.range n).foldl (fun s (i:Nat)=>ylq s (ok i) (c i)) (yeE,false)=r at ih ⊢;obtain⟨h1,h2⟩:=ih;unfold ylq;cases hk:ok n
  ·refine⟨fun h=> ?_,fun i hi ho=> ?_⟩
   ·obtain⟨i,hi,ho,e⟩:=h1 h
    exact⟨i,by omega,ho,e⟩
   ·rcases Nat.lt_succ_iff_lt_or_eq.1 hi with h | h
    ·exact h2 i h ho
    ·subst h; rw[hk]at ho; cases ho
  ·cases hb:(!r.2||ltb r.1.2.1 (c n).2.1)
   ·rw[Bool.or_eq_false_iff,Bool.not_eq_false']at hb
    have hle:=zkU hb.2;refine⟨fun h=> ?_,fun i hi ho=> ?_⟩
    ·obtain⟨i,hi,ho,e⟩:=h1 h
     exact⟨i,by omega,ho,e⟩
    ·rcases Nat.lt_succ_iff_lt_or_eq.1 hi with h | h
     ·exact h2 i h ho
     ·subst h; exact⟨hb.1,hle⟩
   ·refine⟨fun _=>⟨n,by omega,hk,rfl⟩,fun i hi ho=>⟨rfl,?_⟩⟩
    show(c i).2.1≤(c n).2.1;rcases Nat.lt_succ_iff_lt_or_eq.1 hi with h | h
    ·obtain⟨g1,g2⟩:=h2 i h ho
     rw[g1,Bool.not_true,Bool.false_or,zj8]at hb;omega
    ·subst h; exact Int.le_refl _
structure Fell (S:Int) (m:dM):Prop where
 ok:yw m=true
 len:(m.1.length:Int)=6+S
 cac:m.2.1= []
theorem y3F {S:Int} {m:dM} (h:Fell S m) (hS:1≤S) (hf:m.2.2.1=false) {n:Int} (n0:0≤n) (n6:n<6) (hb:yaZ m n=false):yR m n=(nth m.1 n [],true):=by
 rw[yRV h.ok hf (zj4.2 (by have:=h.len; omega)),hb,cond_false];unfold ycb;rw[h.cac]; rfl
theorem y1h {S id:Int} {m:dM} (h:Fell S m) (hS:1≤S) (hf:m.2.2.1=false) {n:Int} (n0:0≤n) (n6:n<6) (hb:yaZ m n=false):(yql m id n=true→ywv id n (nth m.1 n []) (yGu m n))∧ ∀s,ywv id n (nth m.1 n []) s→yql m id n=true∧yGu m n=s:=by
 have hr:=y3F h hS hf n0 n6 hb;unfold yql ywv yGu;rw[hr];refine⟨fun hc=> ?_,fun s ⟨h1,h2,h3⟩=> ?_⟩
 ·simp only[Bool.true_and,Bool.and_eq_true,beq_iff_eq]at hc
  exact⟨Prod.ext rfl hc.1,hc.2.1,hc.2.2⟩
 ·rw[h1]
  refine⟨?_,rfl⟩;show(true&&(true&&(s.1==id&&s.2.1.tmod 2==n)))=true;rw[h2,h3,beq_self_eq_true,beq_self_eq_true]; rfl
theorem yJT {S id:Int} {m:dM} (h:Fell S m) (hS:1≤S) (hf:m.2.2.1=false) (hb: ∀n,0≤n→n<6→yaZ m n=false) :
  ((yaq m id).2=true→ ∃n,(n=0∨n=1)∧ywv id n (nth m.1 n []) (yaq m id).1)∧ ∀n s,(n=0∨n=1)→ywv id n (nth m.1 n []) s→(yaq m id).2=true∧s.2.1≤(yaq m id).1.2.1:=by
 obtain⟨b1,b2⟩:=yGt (fun(i:Nat)=>yql m id i) (fun(i:Nat)=>yGu m i) 2;have e:yaq m id=(List.range 2).foldl (fun s (i:Nat)=>ylq s (yql m id i) (yGu m i)) (yeE,false):=rfl;rw[← e]at b1 b2;refine⟨fun h2=> ?_,fun n s hn hs=> ?_⟩
 ·obtain⟨i,hi,ho,e1⟩:=b1 h2
  have hc:=(y1h (id:=id) h hS hf (n:=i) (by omega) (by omega) (hb i (by omega) (by omega))).1 ho;exact⟨i,by omega,by rw[e1]; exact hc⟩
 ·obtain⟨k,rfl⟩: ∃k:Nat,n=k:=⟨n.toNat,by omega⟩
  obtain⟨h1,h2⟩:=(y1h (id:=id) h hS hf (n:=k) (by omega) (by omega) (hb k (by omega) (by omega))).2 s hs;have:=b2 k (by omega) h1;rw[h2]at this; exact this
structure FellAll (g:dG) (l:List dM):Prop where
 n:(l.length:Int)=g.1
 f: ∀i,0≤i→i<g.1→Fell g.2 (nth l i yc)
def yxp (l:List dM) (i n:Int):List Int:=nth (nth l i yc).1 n []
def flF (l:List dM) (i:Int):Bool:=(nth l i yc).2.2.1
def bdF (l:List dM) (i n:Int):Bool:=yaZ (nth l i yc) n
theorem yRJ {id:Int} {g:dG} {G T L B Lf Bf:Int} {l:List dM} (hl:FellAll g l) (hS:1≤g.2) (hs:Wsup id g G T L B Lf Bf (yxp l) (flF l)) (hb: ∀i n,0≤i→i<g.1→flF l i=false→bdF l i n=true→6≤n) {i:Int} (i0:0≤i) (i1:i<g.1) :
  (yhC (nth l i yc) i id=true→flF l i=false∧yfH id (yxp l i)∧ ∃n,(n=0∨n=1)∧ywv id n (yxp l i n) (yaq (nth l i yc) id).1)∧(flF l i=false→yfH id (yxp l i)→yhC (nth l i yc) i id=true):=by
 have hb2:flF l i=false→ ∀n,0≤n→n<6→yaZ (nth l i yc) n=false:=fun hf n n0 n6=>by
  cases hx:yaZ (nth l i yc) n
  ·rfl
  ·have:=hb i n i0 i1 hf hx; omega
 unfold yhC;constructor
 ·intro h
  simp only[Bool.and_eq_true,Bool.not_eq_true',beq_iff_eq]at h;obtain⟨n,hn,hsv⟩:=(yJT (id:=id) (hl.f i i0 i1) hS h.1 (hb2 h.1)).1 h.2.1;exact⟨h.1,⟨n,_,hn,hsv⟩,n,hn,hsv⟩
 ·intro hf ⟨n,s,hn,hsv⟩
  obtain⟨b1,b2⟩:=yJT (id:=id) (hl.f i i0 i1) hS hf (hb2 hf);obtain⟨g1,_⟩:=b2 n s hn hsv;obtain⟨k,hk,hkv⟩:=b1 g1;have hr:=(hs.u1 i k _ i0 i1 hf hk hkv).1;have hf':(nth l i yc).2.2.1=false:=hf;rw[hf',g1,hr,beq_self_eq_true]; rfl
theorem y2V {id:Int} {g:dG} {G T L B Lf Bf:Int} {l:List dM} (hl:FellAll g l) (hS:1≤g.2) (hs:Wsup id g G T L B Lf Bf (yxp l) (flF l)) (hb: ∀i n,0≤i→i<g.1→flF l i=false→bdF l i n=true→6≤n): ∃i,(0≤i∧i<g.1)∧ydF l id=(yeM id g G T L B i,true):=by
 obtain⟨b1,b2⟩:=yGt (fun(i:Nat)=>yhC (nth l i yc) i id) (fun(i:Nat)=>(yaq (nth l i yc) id).1) l.length;have e:ydF l id=(List.range l.length).foldl (fun s (i:Nat)=>ylq s (yhC (nth l i yc) i id) (yaq (nth l i yc) id).1) (yeE,false):=rfl;rw[← e]at b1 b2;have hn:=hl.n;obtain⟨j,j0,j1,jf,je⟩:=hs.u3;obtain⟨k,rfl⟩: ∃k:Nat,j=k:=⟨j.toNat,by omega⟩;have hsl:=yVP (yfk (hs.u0 k j0 j1)).1.1;have hsv:ywv id (G.tmod 2) (yxp l k (G.tmod 2)) (yeM id g G T L B k):=by rw[je]; exact yxt (hs.u0 k j0 j1)
 have hown:=(yRJ hl hS hs hb j0 j1).2 jf ⟨_,_,hsl,hsv⟩;obtain⟨g1,g2⟩:=b2 k (by omega) hown
 have hb2: ∀n,0≤n→n<6→yaZ (nth l k yc) n=false:=fun n n0 n6=>by
  cases hx:yaZ (nth l k yc) n
  ·rfl
  ·have:=hb k n j0 j1 jf hx; omega
 have g3:=((yJT (id:=id) (hl.f k j0 j1) hS jf hb2).2 _ _ hsl hsv).2;obtain⟨i,hi,ho,e1⟩:=b1 g1;obtain⟨if0,_,n,hn2,hsv2⟩:=(yRJ hl hS hs hb (i:=i) (by omega) (by omega)).1 ho;have h3:=(hs.u1 i n _ (by omega) (by omega) if0 hn2 hsv2).2
 have hge:G≤(yaq (nth l i yc) id).1.2.1:=by
  have e2:(ydF l id).1.2.1=(yaq (nth l i yc) id).1.2.1:=by rw[e1]
  have e3:(yeM id g G T L B k).2.1=G:=rfl;omega
 rcases h3 with h3 | h3
 ·omega
 ·exact⟨i,by omega,Prod.ext (e1.trans h3) g1⟩
theorem y1d {l:List dM} {id L B Lf:Int} (h1: ∀i:Nat,i<l.length→(i:Int)≠Lf→yhC (nth l i yc) i id=true) (h2: ∀i:Nat,i<l.length→(i:Int)=Lf→yhC (nth l i yc) i id=false→L= -1∨L=Lf) :
  ∀n,n≤l.length→(List.range n).foldl (yj3 l id) (L,B,false)=bif leb 0 Lf&&(ltb Lf n&& !(yhC (nth l Lf yc) Lf id))then(Lf,0,false)else(L,B,false)
 | 0,_=>by
  cases h0:leb 0 Lf
  ·rfl
  ·rw[zk1 (show((0:Nat):Int)≤Lf from zj5.1 h0)]; rfl
 | n+1,hn=>by
  rw[List.range_succ,List.foldl_append,List.foldl_cons,List.foldl_nil,y1d h1 h2 n (by omega)];by_cases hnL:(n:Int)=Lf
  ·subst hnL
   rw[zk0 (show(0:Int)≤n by omega),zk1 (Int.le_refl _),zkw (show(n:Int)<((n+1:Nat):Int)by omega)];simp only[Bool.true_and,Bool.false_and,cond_false];unfold yj3;cases ho:yhC (nth l n yc) n id
   ·rcases h2 n (by omega) rfl ho with h3 | h3
    ·subst h3; rfl
    ·subst h3; rw[cond_false,beq_self_eq_true,Bool.or_true]; rfl
   ·rfl
  ·have ho:=h1 n (by omega) hnL
   have e:ltb Lf ((n+1:Nat):Int)=ltb Lf (n:Int):=by rw[Bool.eq_iff_iff,zj8,zj8]; omega
   rw[e];unfold yj3;rw[ho]; rfl
def ymT (id:Int) (g:dG) (G T Lf Bf:Int) (l:List dM):dA:=(id,g,l,Lf,Bf,T,T,G,[],-1,false,false)
theorem y4c {id:Int} {g:dG} {G T L B Lf Bf:Int} {l:List dM} (hl:FellAll g l) (hs:Wsup id g G T L B Lf Bf (yxp l) (flF l)) (hb: ∀i n,0≤i→i<g.1→flF l i=false→bdF l i n=true→6≤n) :
  yfI l id=(ymT id g G T Lf Bf l,true)∧yT (ymT id g G T Lf Bf l)∧yI (ymT id g G T Lf Bf l):=by
 obtain⟨j,j0,j1,jf,_⟩:=hs.u3;obtain⟨s1,s2,s3,s4,s5,s6,s7⟩:=yfk (hs.u0 j j0 j1);have hg:=yl.1 s2;have hS:1≤g.2:=by omega
 have hn:=hl.n;obtain⟨i,⟨i0,i1⟩,hbest⟩:=y2V hl hS hs hb;have ow:=fun i i0 i1=>yRJ hl hS hs hb (i:=i) i0 i1
 have hfold:(List.range l.length).foldl (yj3 l id) (L,B,false)=(Lf,Bf,false):=by
  rw[y1d (Lf:=Lf) (fun i hi hne=>by
   obtain⟨k1,k2⟩:=hs.u2 i (by omega) (by omega) hne
   exact(ow i (by omega) (by omega)).2 k1 k2) (fun i hi he ho=>by
   rcases hs.u4 with⟨h1,_,h2⟩ | ⟨_,_,_,h4,_⟩
   ·exact .inr h1.symm
   ·exact h4) _ (Nat.le_refl _)]
  rcases hs.u4 with⟨h1,h2,h3⟩ | ⟨h1,h2,h3,h4,h5⟩
  ·rcases h3 with h3 | ⟨h3,h4⟩
   ·rw[zkZ (show Lf<0 by omega),Bool.false_and,cond_false,h1,h2]
   ·cases h0:leb 0 Lf
    ·rw[Bool.false_and,cond_false,h1,h2]
    ·have h0:=zj5.1 h0
     rw[(ow Lf h0 (by omega)).2 h3 h4,Bool.not_true,Bool.and_false,Bool.and_false,cond_false,h1,h2]
  ·have ho:yhC (nth l Lf yc) Lf id=false:=by
    cases hx:yhC (nth l Lf yc) Lf id
    ·rfl
    ·obtain⟨k1,k2,_⟩:=(ow Lf h1 h2).1 hx
     exact absurd ⟨k1,k2⟩ h3
   rw[zk0 h1,zkw (show Lf<((l.length:Nat):Int)by omega),ho,Bool.not_false,h5]; rfl
 have hall:yGX l id=ymT id g G T Lf Bf l:=by
  unfold yGX;rw[hbest];show yt2 (yeM id g G T L B i) l id ((List.range l.length).foldl (yj3 l id) (L,B,false))=_;rw[hfold]; rfl
 have hL:(-1≤Lf∧Lf≤g.1-1)∧(0≤Bf∧Bf≤g.2)∧(Lf= -1→Bf=0):=by
  rcases hs.u4 with⟨h1,h2,_⟩ | ⟨h1,h2,_,_,h5⟩
  ·subst h1 h2; exact⟨s5,s6,fun h=>by omega⟩
  ·exact⟨by omega,by omega,fun h=>by omega⟩
 have hcore:yT (ymT id g G T Lf Bf l):=⟨s2,s3,rfl,hL.1,hL.2.1,hL.2.2,s4,⟨Int.le_refl _,s4.2⟩,by show T≤T+4; omega,s1.1,s1.2⟩
 have hkeep:yI (ymT id g G T Lf Bf l):=by
  refine⟨⟨fun k hk=> ?_,hn⟩,by show -1≤(-1:Int); omega,by show(-1:Int)≤1000; omega⟩;have hk:k<l.length:=hk;have hf:=hl.f k (by omega) (by omega);refine⟨hf.ok,hf.len,fun h=> .inl ?_⟩;show(k:Int)=Lf;by_cases e:(k:Int)=Lf
  ·exact e
  ·have:=(hs.u2 k (by omega) (by omega) e).1
   have h:flF l k=true:=h;rw[h]at this; cases this
 refine⟨?_,hcore,hkeep⟩;unfold yfI;rw[hall,hbest];show(bif true&&(((l.length:Int)==g.1)&&yal (ymT id g G T Lf Bf l))then(ymT id g G T Lf Bf l,true)else(yaD,false))=_;rw[yB2.2 ⟨hcore,hkeep⟩,hn,beq_self_eq_true]; rfl
theorem y3L {α:Type} (p:α→Bool) (l:List α):leb 0 (yaj p l)=l.any p:=by
 unfold yaj;cases l.any p
 ·rfl
 ·exact zk0 (show(0:Int)≤((l.takeWhile (fun x=> !p x)).length:Int)by omega)
theorem yHO {id:Int} {g:dG} {G T L B Lf Bf:Int} {f:Int→Int→List Int} {fl fl':Int→Bool} (h:Wsup id g G T L B Lf Bf f fl) (e: ∀i,0≤i→i<g.1→fl' i=fl i):Wsup id g G T L B Lf Bf f fl':=by
 refine⟨h.u0,fun i n s i0 i1 hi=>h.u1 i n s i0 i1 ((e i i0 i1).symm.trans hi),fun i i0 i1 hne=> ?_,?_,?_⟩
 ·rw[e i i0 i1]; exact h.u2 i i0 i1 hne
 ·obtain⟨i,i0,i1,h3⟩:=h.u3
  exact⟨i,i0,i1,by rw[e i i0 i1]; exact h3⟩
 ·rcases h.u4 with⟨h1,h2,h3⟩ | ⟨h1,h2,h3⟩
  ·refine .inl ⟨h1,h2,?_⟩
   obtain⟨i,i0,i1,_⟩:=h.u3;have:=(yfk (h.u0 i i0 i1)).2.2.2.2.1;by_cases hm:Lf= -1
   ·exact .inl hm
   ·rw[e Lf (by omega) (by omega)]; exact h3
  ·refine .inr ⟨h1,h2,?_⟩
   rw[e Lf h1 h2]; exact h3
theorem yLW {g:dG} {T Q:Int} {R:Int→Int×List Int} {V:Int→Int→Int} {Lf Bf:Int} {f:Int→Int→List Int} {fl fl':Int→Bool} {bd:Int→Int→Bool} (h:Wdat g T Q R V Lf Bf f fl bd) (e: ∀i,0≤i→i<g.1→fl' i=fl i):Wdat g T Q R V Lf Bf f fl' bd :=
 ⟨h.e,h.q,fun i s i0 i1 s0 s1 hi=>h.d i s i0 i1 s0 s1 ((e i i0 i1).symm.trans hi),fun q q0 q1=>by
  obtain⟨i,i0,i1,h3⟩:=h.r q q0 q1
  exact⟨i,i0,i1,by rw[e i i0 i1]; exact h3⟩,fun i n r i0 i1 hi=>h.h i n r i0 i1 ((e i i0 i1).symm.trans hi),h.v,h.l,fun i n i0 i1 hi=>h.b i n i0 i1 ((e i i0 i1).symm.trans hi)⟩
theorem yYy {a b:dA} (h:yy b=yy a):b.2.2.2.2.2.2.2.2.1=a.2.2.2.2.2.2.2.2.1:=congrArg (fun x=>x.2.2.2.2.2.2.2.1) h
theorem y3m (a:dA) (r:dN):(yo a r).2.2.2.2.2.2.2.2.1=a.2.2.2.2.2.2.2.2.1:=yYy (ya2 a r)
theorem y16 (a:dA) (s:Int) (d:List Int):(yB a s d).2.2.2.2.2.2.2.2.1=a.2.2.2.2.2.2.2.2.1:=yYy (yd7 a s d)
structure Way (id:Int) (g:dG) (G T L B Q:Int) (R:Int→Int×List Int) (V:Int→Int→Int) (Lf Bf:Int) (l0:List dM) (a:dA):Prop where
 e1:a.1=id
 e2:a.2.1=g
 e3:a.2.2.2.1=Lf
 e4:a.2.2.2.2.1=Bf
 e6:a.2.2.2.2.2.2.1=T
 e7:a.2.2.2.2.2.2.2.1=G
 e8:a.2.2.2.2.2.2.2.2.1= []
 e9:a.2.2.2.2.2.2.2.2.2.2.2=false
 kp:yI a
 st: ∀f,Ch a f→Wsup id g G T L B Lf Bf f (yG a)∧Wdat g T Q R V Lf Bf f (yG a) (yK a)
 fl: ∀i,0≤i→i<g.1→yG a i=flF l0 i
 bd: ∀i m,0≤i→i<g.1→6≤m→(yK a i m=true→bdF l0 i m=true)∧(T=Q→yK a i m=bdF l0 i m)
structure Rp (id:Int) (g:dG) (G T L B Q:Int) (R:Int→Int×List Int) (V:Int→Int→Int) (Lf Bf:Int) (l0:List dM) (q:Int) (a:dA):Prop where
 w:Way id g G T L B Q R V Lf Bf l0 a
 q0:T≤q
 q1:q≤Q
 s:a.2.2.2.2.2.1=q
 u:ya a=false
 c: ∀i,0≤i→i<g.1→(yj a i).2.1.length≤1
 v: ∀i s,0≤i→i<g.1→0≤s→s<g.2→yad a s i=true→(∀p,q≤p→p<Q→(R p).1≠s)→ycb (yj a i) (s+6)= [V s i]
section
variable {id:Int} {g:dG} {G T L B Q:Int} {R:Int→Int×List Int} {V:Int→Int→Int} {Lf Bf:Int} {l0:List dM}
theorem yHc (a:dA):Ch a (fun i n=>ycb (yj a i) n):=fun i n _ _ _=>ywW _ _
theorem y2L {q:Int} {a:dA} (h:Rp id g G T L B Q R V Lf Bf l0 q a):(q<Q→yaz a q=((q,R q),true))∧(q=Q→(yaz a q).2=false):=by
 have hst:=h.w.st _ (yHc a);obtain⟨hs,hd⟩:=hst;have hq:=hd.q;have hq0:=h.q0;have hlen:=h.w.kp.1.2;rw[h.w.e2]at hlen;have hsl:=ykv (q:=q) (by omega);obtain⟨j,j0,j1,_⟩:=hs.u3;have hgo:=(yfk (hs.u0 j j0 j1)).2.1;have hg:=yl.1 hgo
 have rd: ∀i:Nat,i<a.2.2.1.length→yHL a q i=bif yG a i then([],false)else(ycb (yj a i) (yh q),true):=fun i hi=>by
  have dk:=ydP h.w.kp (i:=i) (by omega) (by rw[h.w.e2]; omega);rw[h.w.e2]at dk;unfold yHL;cases hf:yG a i
  ·have hbf:yaZ (yj a i) (yh q)=false:=by
    cases hx:yaZ (yj a i) (yh q)
    ·rfl
    ·have:=hd.b i _ (by omega) (by omega) hf hx; omega
   have:=yRV dk.1 hf (n:=yh q) (zj4.2 (by omega));rw[hbf]at this; exact this
  ·have hf:(nth a.2.2.1 i yc).2.2.1=true:=hf
   unfold yR ysv;rw[hf,Bool.not_true,Bool.false_and,Bool.and_false]; rfl
 have hit: ∀i:Nat,i<a.2.2.1.length→ykt a q i=true→q<Q∧yrd a q i=(q,R q):=fun i hi hh=>by
  have r:=rd i hi;unfold ykt yrd at hh;unfold yrd;rw[r]at hh ⊢;cases hf:yG a i
  ·rw[hf]at hh
   simp only[cond_false,Bool.true_and,Bool.and_eq_true,beq_iff_eq]at hh ⊢;have e:yaB (ycb (yj a i) (yh q))=((yaB (ycb (yj a i) (yh q))).1,true):=Prod.ext rfl hh.1;obtain⟨k1,k2⟩:=hd.h i (yh q) _ (by omega) (by omega) hf hsl.1 hsl.2.1 e;have hse:=hh.2.1;rw[hse]at k1 k2;exact⟨k1,Prod.ext hse (k2 hq0)⟩
  ·rw[hf]at hh
   simp only[cond_true,Bool.false_and]at hh;cases hh
 refine⟨fun hlt=> ?_,fun he=> ?_⟩
 ·obtain⟨i,i0,i1,hi,e⟩:=hd.r q hq0 hlt
  obtain⟨k,rfl⟩: ∃k:Nat,i=k:=⟨i.toNat,by omega⟩;have hv:=hd.v q hq0 hlt;have hrk:=yLy (q:=q) (by omega) (by omega) hv.1 hv.2.1 hv.2.2;have hstr:=yV.1 hv.1
  have hh:ykt a q k=true:=by
   unfold ykt yrd;rw[rd k (by omega),hi];have e:ycb (yj a k) (yh q)=yac (q,R q):=e;rw[cond_false,e];show(true&&((yaB (yac (q,R q))).2&&((yaB (yac (q,R q))).1.1==q&&((leb 0 (yaB (yac (q,R q))).1.2.1&&leb (yaB (yac (q,R q))).1.2.1 (a.2.1.2-1))&&((yaB (yac (q,R q))).1.2.2.length:Int)==a.2.1.1-1))))=true;rw[yGv hrk,h.w.e2];show(true&&(true&&(q==q&&((leb 0 (R q).1&&leb (R q).1 (g.2-1))&&((R q).2.length:Int)==g.1-1))))=true;rw[zk0 hstr.2.1,zk0 hstr.2.2,hv.2.1,beq_self_eq_true,beq_self_eq_true]; rfl
  have hsome:(yaz a q).2=true:=by
   unfold yaz;rw[y3L,List.any_eq_true.2 ⟨k,List.mem_range.2 (by omega),hh⟩]; rfl
  obtain⟨m,hm,h1,h2⟩:=yO5 hsome;exact Prod.ext (h2.trans (hit m hm h1).2) hsome
 ·cases hx:(yaz a q).2
  ·rfl
  ·obtain⟨m,hm,h1,_⟩:=yO5 hx
   have:=(hit m hm h1).1; omega
theorem y5c {q:Int} {a:dA} (h:Way id g G T L B Q R V Lf Bf l0 a) (q0:T≤q) (q1:q<Q):Way id g G T L B Q R V Lf Bf l0 (yo a (q,R q)):=by
 have ok:=ybL h.kp;have ht:=yLV (q,R q) ok;have hc:=ya2 a (q,R q);obtain⟨c1,c2,c3,c4,c5,c6,c7⟩:=ybk hc;have hq:=(h.st _ (yHc a)).2.q;have hsl:=ykv (q:=q) (by omega);have htf: ∀i,0≤i→i<g.1→yG (yo a (q,R q)) i=yG a i:=fun i i0 i1=>ht.f i i0 (by rw[h.e2]; exact i1)
 have htb: ∀i m,0≤i→i<g.1→6≤m→yK (yo a (q,R q)) i m=yK a i m:=fun i m i0 i1 m0=>ht.b i m i0 (by rw[h.e2]; exact i1) (fun e=>by have:m=yh q:=e; omega)
 refine⟨c1.trans h.e1,c2.trans h.e2,c3.trans h.e3,c4.trans h.e4,c6.trans h.e6,c7.trans h.e7,(y3m a (q,R q)).trans h.e8,(yrA hc).trans h.e9,ywZ _ h.kp,fun f' hf=> ?_,fun i i0 i1=>(htf i i0 i1).trans (h.fl i i0 i1),fun i m i0 i1 m0=>by rw[htb i m i0 i1 m0]; exact h.bd i m i0 i1 m0⟩;obtain⟨f,hf0,hff⟩:=ht.c f' hf;rw[h.e2]at hff;obtain⟨h1,h2⟩:=h.st f hf0;have hfl: ∀i,0≤i→i<g.1→yG (yo a (q,R q)) i=false→yG a i=false:=fun i i0 i1 hi=>(htf i i0 i1).symm.trans hi
 refine⟨yHO (ygx h1 (fun i n i0 i1 _ hn=> ?_)) htf,yLW (y4J h2 q0 q1 (fun i n i0 i1 _ hn=>hff i n i0 i1 (by omega)) htb (fun i n i0 i1 hb=>ht.d i n i0 (by rw[h.e2]; exact i1) hb)) htf⟩;rcases hff i n i0 i1 (by omega)with e | ⟨e,_⟩
 ·exact e
 ·have:n=yh q:=e
  omega
theorem y4I {q:Int} {a:dA} (h:Way id g G T L B Q R V Lf Bf l0 a) (q0:T≤q) (q1:q<Q):Way id g G T L B Q R V Lf Bf l0 (yB a (R q).1 (R q).2):=by
 have ok:=ybL h.kp;have ht:=yRY (R q).1 (R q).2 ok;have hc:=yd7 a (R q).1 (R q).2;obtain⟨c1,c2,c3,c4,c5,c6,c7⟩:=ybk hc;have hst:=(h.st _ (yHc a)).2;have hs1:=yV.1 (hst.v q q0 q1).1;have hg:=yl.1 hs1.1;have hda:=yiO (s:=(R q).1) hs1.2.1 (by omega);have htf: ∀i,0≤i→i<g.1→yG (yB a (R q).1 (R q).2) i=yG a i:=fun i i0 i1=>ht.f i i0 (by rw[h.e2]; exact i1)
 refine⟨c1.trans h.e1,c2.trans h.e2,c3.trans h.e3,c4.trans h.e4,c6.trans h.e6,c7.trans h.e7,(y16 a _ _).trans h.e8,(yrA hc).trans h.e9,yFM _ _ h.kp,fun f' hf=> ?_,fun i i0 i1=>(htf i i0 i1).trans (h.fl i i0 i1),fun i m i0 i1 m0=>⟨fun hb=>(h.bd i m i0 i1 m0).1 (ht.d i m i0 (by rw[h.e2]; exact i1) hb),fun e=>by omega⟩⟩;obtain⟨f,hf0,hff⟩:=ht.c f' hf;rw[h.e2]at hff;obtain⟨h1,h2⟩:=h.st f hf0;refine⟨yHO (ygx h1 (fun i n i0 i1 _ hn=> ?_)) htf,yLW (ygw h2 (fun i n i0 i1 hi hn=> ?_) (fun i n i0 i1 hb=>ht.d i n i0 (by rw[h.e2]; exact i1) hb)) htf⟩
 ·rcases hff i n i0 i1 (by omega)with e | ⟨e,_⟩
  ·exact e
  ·omega
 ·by_cases e:n=yA (R q).1
  ·exact .inr (.inl ⟨q,q0,q1,by omega⟩)
  ·rcases hff i n i0 i1 (by omega)with e2 | ⟨e2,_⟩
   ·exact .inl ⟨e2,ht.b i n i0 (by rw[h.e2]; exact i1) e⟩
   ·exact absurd e2 e
theorem y5a {q:Int} {a:dA} (h:Rp id g G T L B Q R V Lf Bf l0 q a) (hq:q<Q):Way id g G T L B Q R V Lf Bf l0 (yhH a)∧(ya (yhH a)=false→Way id g G T L B Q R V Lf Bf l0 (yku a)∧(ya (yku a)=false→Rp id g G T L B Q R V Lf Bf l0 (q+1) (yku a))):=by
 have hfd:=(y2L h).1 hq;have e1:yhH a=yo a (q,R q):=by unfold yhH; rw[h.s,hfd]
 have e2:yku a=yB (yC (yo a (q,R q))) (R q).1 (R q).2:=by unfold yku; rw[e1,h.s,hfd]
 rw[e1,e2];have w1:=y5c h.w h.q0 hq;refine⟨w1,fun hu1=> ?_⟩;have w2:Way id g G T L B Q R V Lf Bf l0 (yC (yo a (q,R q))):=⟨w1.e1,w1.e2,w1.e3,w1.e4,w1.e6,w1.e7,w1.e8,w1.e9,w1.kp,w1.st,w1.fl,w1.bd⟩;have w3:=y4I w2 h.q0 hq;refine⟨w3,fun hu2=> ?_⟩;have hst:=(h.w.st _ (yHc a)).2;have hv:=hst.v q h.q0 hq;have hs1:=yV.1 hv.1;have hg:=yl.1 hs1.1;have hqq:=hst.q;have hq0:=h.q0;have hlen:=h.w.kp.1.2;rw[h.w.e2]at hlen;have hl1:(yo a (q,R q)).2.2.1.length=a.2.2.1.length:=yHM a _;have hd1: ∀i,0≤i→i<g.1→yj (yo a (q,R q)) i=yE (yec (yh q) (yac (q,R q)) (yj a i)):=fun i i0 i1=>yLS hu1 i0 (by omega)
 have dk: ∀i,0≤i→i<g.1→yw (yj a i)=true∧((yj a i).1.length:Int)=6+g.2:=fun i i0 i1=>by
  have:=ydP h.w.kp i0 (by rw[h.w.e2]; exact i1);rw[h.w.e2]at this; exact⟨this.1,this.2.1⟩
 have hsq:(yC (yo a (q,R q))).2.2.2.2.2.1=q+1:=by
  show i64.wrap ((yo a (q,R q)).2.2.2.2.2.1+1)=_;rw[yfJ (ya2 a (q,R q)),h.s]; exact wr (by omega) (by omega)
 have less1: ∀i,0≤i→i<g.1→yCD g.2 (yj a i) (yj (yo a (q,R q)) i):=fun i i0 i1=>by
  rw[hd1 i i0 i1];exact yH7 (yP2 (ykv (q:=q) (by omega)).2.1) (yBW (yoS (dk i i0 i1).1))
 have cac1: ∀i,0≤i→i<g.1→(yj (yo a (q,R q)) i).2.2.1=false→(yj (yo a (q,R q)) i).2.1= []:=fun i i0 i1 hf=>by
  rw[hd1 i i0 i1]at hf ⊢;rw[(ysy _).2]at hf;exact(yBP (yoS (dk i i0 i1).1) hf).1
 have cac2: ∀i,0≤i→i<g.1→(yj (yo a (q,R q)) i).2.1.length≤1:=fun i i0 i1=>by
  rw[hd1 i i0 i1];exact Nat.le_trans (yut (dk i i0 i1).1) (h.c i i0 i1)
 have hlq: ∀i,yaf (yo a (q,R q)).2.2.2.1 (yo a (q,R q)).2.2.2.2.1 i=yaf Lf Bf i:=fun i=>by rw[w1.e3,w1.e4]
 have hv1: ∀i s,0≤i→i<g.1→0≤s→s<g.2→yad (yo a (q,R q)) s i=true→(∀p,q≤p→p<Q→(R p).1≠s)→ycb (yj (yo a (q,R q)) i) (s+6)= [V s i]:=fun i s i0 i1 s0 s1 hh hj=>by
  unfold yad at hh;rw[hlq,Bool.and_eq_true,Bool.not_eq_true']at hh
  have hf:(yj (yo a (q,R q)) i).2.2.1=false:=by
   have:=hh.1;simp only[yaf,Bool.and_eq_true,Bool.not_eq_true']at this; exact this.1
  obtain⟨g1,g2⟩:=less1 i i0 i1 hf;obtain⟨g3,g4⟩:=g2 (s+6) (by omega) (by omega) hh.2;rw[g4];refine h.v i s i0 i1 s0 s1 ?_ hj;unfold yad;rw[h.w.e3,h.w.e4,g3];have:=hh.1;unfold yaf at this ⊢;rw[hf]at this;rw[g1,this]; rfl
 have kd:yI (yC (yo a (q,R q))):=w2.kp
 have hd2: ∀i,0≤i→i<g.1→yj (yB (yC (yo a (q,R q))) (R q).1 (R q).2) i=yiP Lf Bf (yk g (R q).1) g.1 (R q).1 (R q).2 i (yj (yo a (q,R q)) i):=fun i i0 i1=>by
  have:=yCY (yO3 (a:=yC (yo a (q,R q))) (R q).1 (R q).2 hu1) hu2 i0 (by show i<((yo a (q,R q)).2.2.1.length:Int); omega);rw[w2.e2,w2.e3,w2.e4]at this; exact this
 have hda:=yiO (s:=(R q).1) hs1.2.1 (by omega);refine⟨w3,by omega,by omega,(yfJ (yd7 _ _ _)).trans hsq,hu2,fun i i0 i1=> ?_,fun i s i0 i1 s0 s1 hh hj=> ?_⟩
 ·rw[hd2 i i0 i1]
  obtain⟨c1,c2⟩:=yOj Lf Bf (yk g (R q).1) g.1 (R q).1 (R q).2 i (yj (yo a (q,R q)) i);cases hf:(yj (yo a (q,R q)) i).2.2.1
  ·rw[cac1 i i0 i1 hf]at c1; exact c1
  ·rw[c2 hf]; exact cac2 i i0 i1
 ·unfold yad at hh
  rw[w3.e3,w3.e4,hd2 i i0 i1,Bool.and_eq_true,Bool.not_eq_true']at hh;rw[hd2 i i0 i1];by_cases hs:s=(R q).1
  ·subst hs
   have hlv:yaf Lf Bf i (R q).1 (yj (yo a (q,R q)) i)=true:=by
    have:=hh.1;unfold yaf at this ⊢;rw[(yBS (S:=0) (-1) (by omega)).1]at this;exact this
   have hf:(yj (yo a (q,R q)) i).2.2.1=false:=by
    simp only[yaf,Bool.and_eq_true,Bool.not_eq_true']at hlv; exact hlv.1
   have dk2:=ydP w1.kp i0 (by rw[w1.e2]; exact i1);rw[w1.e2]at dk2;unfold yiP;rw[hlv,cond_true,ynx (yqk dk2.1 hf (by rw[hda]; exact zj4.2 (by omega)) (yyI.2 ⟨by simp,fun x hx=> ?_⟩) (by rw[cac1 i i0 i1 hf]; decide)),hda,beq_self_eq_true,cond_true,hst.l q hq0 hq (fun p p0 p1=>hj p (by omega) p1) i i0 i1];rw[List.mem_singleton.1 hx];exact yoT.1 (yJX hv.2.2)
  ·obtain⟨e1,e2,e3⟩:=yBS (L:=Lf) (B:=Bf) (p:=yk g (R q).1) (N:=g.1) (s:=(R q).1) (i:=i) (d:=(R q).2) (S:=0) (m:=yj (yo a (q,R q)) i) (s+6) (by omega)
   rw[e3];refine hv1 i s i0 i1 s0 s1 ?_ (fun p p0 p1=> ?_)
   ·unfold yad
    rw[hlq];rw[e2]at hh;have h2:=hh.1;unfold yaf at h2 ⊢;rw[e1]at h2;rw[h2,hh.2]; rfl
   ·by_cases e:p=q
    ·subst e; exact fun e=>hs e.symm
    ·exact hj p (by omega) p1
theorem y4U: ∀(k i:Nat) (q:Int) (a:dA),Rp id g G T L B Q R V Lf Bf l0 q a→Q≤q+k→(∀b,goE yp9 .inl k i a= .inl b→Rp id g G T L B Q R V Lf Bf l0 Q b)∧ ∀b,goE yp9 .inl k i a= .inr b→ya b=true∧Way id g G T L B Q R V Lf Bf l0 b
 | 0,i,q,a,h,hk=>by
  have hq:q=Q:=by have:=h.q1; omega
  refine⟨fun b hb=> ?_,fun b hb=> ?_⟩
  ·cases hb; subst hq; exact h
  ·cases hb
 | k+1,i,q,a,h,hk=>by
  have hf:=y2L h;have hq1:=h.q1;have hst:=(h.w.st _ (yHc a)).2.q;unfold goE yp9;by_cases hq:q=Q
  ·have h2:=hf.2 hq
   rw[h.s,h2];refine⟨fun b hb=> ?_,fun b hb=> ?_⟩
   ·cases hb; subst hq; exact h
   ·cases hb
  ·have h2:=hf.1 (by omega)
   obtain⟨w1,w2⟩:=y5a h (by omega);rw[h.s,h2,zkZ (show q<60000 by omega)];cases hu1:ya (yhH a)
   ·obtain⟨w3,w4⟩:=w2 hu1
    cases hu2:ya (yku a)
    ·exact y4U k (i+1) (q+1) (yku a) (w4 hu2) (by omega)
    ·refine⟨(fun b hb=>by cases hb),fun b hb=> ?_⟩
     cases hb; exact⟨hu2,w3⟩
   ·refine⟨(fun b hb=>by cases hb),fun b hb=> ?_⟩
    cases hb; exact⟨hu1,w1⟩
end
structure Back (K id:Int) (g:dG) (V:Int→Int→Int) (Lf:Int) (l:List dM) (x:dA):Prop where
 bi:x.1=id
 bg:x.2.1=g
 bl:x.2.2.2.1=Lf
 bc:x.2.2.2.2.2.2.2.2.1= []
 bb:x.2.2.2.2.2.2.2.2.2.2.2=false
 bk:yI x
 bf: ∀i,0≤i→i<g.1→yG x i=flF l i
 be: ∀i m,0≤i→i<g.1→6≤m→yK x i m=true→bdF l i m=true
 dn:ya x=true→ ∀f,Ch x f→WW K id g V Lf f (yG x) (yK x)
 up:ya x=false→Ix K V x∧Rob x.2.2.2.2.1 V x∧x.2.2.2.2.2.2.1=x.2.2.2.2.2.1∧(x.2.2.2.1≠ -1→yG x x.2.2.2.1=true→x.2.2.2.2.1=0)
theorem yYE {l:List dM} (ks:List Int) {i:Int} (i0:0≤i) (i1:i<(l.length:Int)):nth (yag l ks) i yc=ydQ (nth l i yc) (yKC ks i.toNat):=by
 obtain⟨k,rfl⟩: ∃k:Nat,i=k:=⟨i.toNat,by omega⟩;unfold yag;rw[zkQ,zkH (by rw[List.length_map,List.length_range]; omega),List.getElem_map,List.getElem_range]; rfl
theorem y3y (b:dA):(yp b).2.2.2.2.2.2.2.2.2.2.2=b.2.2.2.2.2.2.2.2.2.2.2:=by
 have h1:=yrA (yaF b);unfold yp;cases ya (ye b)
 ·exact(yrA (yiQ (yU (ye b)))).trans h1
 ·exact h1
theorem y1N {K id:Int} {g:dG} {G T L B Q:Int} {R:Int→Int×List Int} {V:Int→Int→Int} {Lf Bf:Int} {l:List dM} {ks:List Int} {fuse:Int} (hn:(l.length:Int)=g.1) (hm: ∀i,0≤i→i<g.1→yw (nth l i yc)=true∧((nth l i yc).1.length:Int)=6+g.2) (hG:G≤K) (hQ:Q≤K) (hK:K+1≤60000) (hfu: -1≤fuse∧fuse≤1000)
  (hs:Wsup id g G T L B Lf Bf (yxp (yag l ks)) (flF l)) (hd:Wdat g T Q R V Lf Bf (yxp (yag l ks)) (flF l) (bdF l)) :
  ∃x,yn1 l ks id fuse=(x,true)∧Back (K+1) id g V Lf l x∧x.2.2.2.2.1=Bf∧(T=Q→ ∀i m,0≤i→i<g.1→6≤m→yK x i m=bdF l i m):=by
 have hfn:=fun i i0 i1=>yYE (l:=l) ks (i:=i) i0 i1
 have hfr: ∀i,0≤i→i<g.1→(nth (yag l ks) i yc).2.1= []∧(nth (yag l ks) i yc).2.2=(nth l i yc).2.2∧(nth (yag l ks) i yc).1.length=(nth l i yc).1.length:=fun i i0 i1=>by
  rw[hfn i i0 (by omega)]; exact yYF (hm i i0 i1).1 _
 have hFA:FellAll g (yag l ks):=⟨by unfold yag; rw[List.length_map,List.length_range]; exact hn,fun i i0 i1=>⟨by rw[hfn i i0 (by omega)]; exact y41 (hm i i0 i1).1 _,by rw[(hfr i i0 i1).2.2]; exact(hm i i0 i1).2,(hfr i i0 i1).1⟩⟩;have hfl: ∀i,0≤i→i<g.1→flF (yag l ks) i=flF l i:=fun i i0 i1=>by unfold flF; rw[(hfr i i0 i1).2.1]
 have hbd: ∀i m,0≤i→i<g.1→bdF (yag l ks) i m=bdF l i m:=fun i m i0 i1=>by unfold bdF yaZ; rw[(hfr i i0 i1).2.1]
 have hs2:=yHO hs hfl;obtain⟨hasm,hcore,hkeep⟩:=y4c hFA hs2 (fun i n i0 i1 hf hb=>hd.b i n i0 i1 ((hfl i i0 i1).symm.trans hf) (by rw[← hbd i n i0 i1]; exact hb));have hcoreq:yy (yhD (ymT id g G T Lf Bf (yag l ks)) fuse false)=yy (ymT id g G T Lf Bf (yag l ks)):=rfl;obtain⟨a0,ha0⟩: ∃a0,a0=yhD (ymT id g G T Lf Bf (yag l ks)) fuse false:=⟨_,rfl⟩;have hk0:yI a0:=by rw[ha0]; exact⟨hkeep.1,hfu⟩
 have hc0:yT a0:=by rw[ha0]; exact yB3 hcoreq hcore
 have hdk: ∀i,yj a0 i=nth (yag l ks) i yc:=fun i=>by rw[ha0]; rfl
 have hrec:yn1 l ks id fuse=(yLz a0,true):=by
  unfold yn1;rw[hasm];show(ylN (bif leb (-1) fuse&&leb fuse 1000 then yhD (ymT id g G T Lf Bf (yag l ks)) fuse false else ymT id g G T Lf Bf (yag l ks)),true)=_;rw[zk0 hfu.1,zk0 hfu.2];show(ylN (yhD (ymT id g G T Lf Bf (yag l ks)) fuse false),true)=_;rw[← ha0];unfold ylN;rw[yB2.2 ⟨hc0,hk0⟩];have e1:ya a0=false:=by rw[ha0]; rfl
  have e2:a0.2.2.2.2.2.2.2.2.2.2.2=false:=by rw[ha0]; rfl
  have e3:a0.2.2.2.2.2.2.2.1=G:=by rw[ha0]; rfl
  rw[e1,e2,e3,zkw (show G<60000 by omega)]; rfl
 have hst: ∀f,Ch a0 f→ ∀i n,0≤i→i<g.1→0≤n→f i n=yxp (yag l ks) i n:=fun f hf i n i0 i1 n0=>by
  rcases hf i n i0 (by rw[ha0]; exact i1) n0 with h | ⟨w,hw,_⟩
  ·rw[h,hdk]; rfl
  ·rw[hdk,(hfr i i0 i1).1]at hw; cases hw
 have hflA: ∀i,0≤i→i<g.1→yG a0 i=flF l i:=fun i i0 i1=>by unfold yG; rw[hdk]; exact hfl i i0 i1
 have hbdA: ∀i m,0≤i→i<g.1→yK a0 i m=bdF l i m:=fun i m i0 i1=>by unfold yK; rw[hdk]; exact hbd i m i0 i1
 have way:Way id g G T L B Q R V Lf Bf l a0:=by
  refine⟨by rw[ha0]; rfl,by rw[ha0]; rfl,by rw[ha0]; rfl,by rw[ha0]; rfl,by rw[ha0]; rfl,by rw[ha0]; rfl,by rw[ha0]; rfl,by rw[ha0]; rfl,hk0,fun f hf=>⟨?_,?_⟩,hflA,fun i m i0 i1 _=>⟨fun h=>by rw[← hbdA i m i0 i1]; exact h,fun _=>hbdA i m i0 i1⟩⟩
  ·exact yHO (ygx hs (fun i n i0 i1 _ hn=>hst f hf i n i0 i1 (by omega))) hflA
  ·exact yLW (ygw hd (fun i n i0 i1 _ hn=> .inl ⟨hst f hf i n i0 i1 (by omega),hbdA i n i0 i1⟩) (fun i n i0 i1 h=>by rw[← hbdA i n i0 i1]; exact h)) hflA
 have hq:=hd.q
 have rp:Rp id g G T L B Q R V Lf Bf l T a0:=by
  refine⟨way,Int.le_refl _,hq.2.1,by rw[ha0]; rfl,by rw[ha0]; rfl,fun i i0 i1=>by rw[hdk,(hfr i i0 i1).1]; exact Nat.zero_le _,fun i s i0 i1 s0 s1 hh hj=> ?_⟩;unfold yad at hh;rw[way.e3,way.e4,Bool.and_eq_true,Bool.not_eq_true']at hh;have h1:=hh.1;simp only[yaf,Bool.and_eq_true,Bool.not_eq_true',Bool.or_eq_true,bne_iff_ne,ne_eq,zj8]at h1
  have hc:ycb (yj a0 i) (s+6)=yxp (yag l ks) i (s+6):=by
   unfold ycb;rw[hdk,(hfr i i0 i1).1]; rfl
  rw[hc];exact hd.d i s i0 i1 s0 s1 ((hflA i i0 i1).symm.trans h1.1) h1.2 ((hbdA i (s+6) i0 i1).symm.trans hh.2) hj
 obtain⟨g1,g2⟩:=y4U 4 0 T a0 rp (by omega);refine⟨yLz a0,hrec,?_⟩;unfold yLz;cases hgo:goE yp9 .inl 4 0 a0 with
 | inr b =>
  obtain⟨hdn,w⟩:=g2 b hgo
  exact⟨⟨w.e1,w.e2,w.e3,w.e8,w.e9,w.kp,w.fl,fun i m i0 i1 m0=>(w.bd i m i0 i1 m0).1,fun _ f hf=>by
   obtain⟨h1,h2⟩:=w.st f hf
   exact⟨G,T,L,B,Q,R,Bf,by omega,by omega,h1,h2⟩,fun hu=>by rw[hdn]at hu; cases hu⟩,w.e4,fun e i m i0 i1 m0=>(w.bd i m i0 i1 m0).2 e⟩
 | inl b =>
  have r:=g1 b hgo;have w:=r.w;obtain⟨j,j0,j1,_⟩:=hs.u3;obtain⟨s1,s2,s3,s4,s5,s6,s7⟩:=yfk (hs.u0 j j0 j1);have hL:(-1≤Lf∧Lf≤g.1-1)∧(0≤Bf∧Bf≤g.2)∧(Lf= -1→Bf=0):=⟨hcore.2.2.2.1,hcore.2.2.2.2.1,hcore.2.2.2.2.2.1⟩
  have hcb:yT b:=by
   unfold yT;rw[w.e1,w.e2,w.e3,w.e4,w.e6,w.e7,w.e8,r.s];exact⟨s2,s3,rfl,hL.1,hL.2.1,hL.2.2,s4,⟨hq.2.1,hq.2.2.2⟩,hq.2.2.1,s1.1,s1.2⟩
  have hwd:=fun f hf=>w.st f hf
  have hix:Ix K V b:=⟨hcb,w.kp,r.u,w.e9,by rw[w.e7]; exact hG,by rw[r.s]; exact hQ,by rw[w.e2]; exact hd.e,fun i s i0 i1 s0 s1 hh=>by
   rw[w.e2]at i1 s1;exact r.v i s i0 i1 s0 s1 hh (fun p p0 p1=>by omega),fun i i0 i1=>by
   rw[w.e2]at i1;have:=r.c i i0 i1
   have h0:(0:Int)≤bif i==b.2.2.2.1 then b.2.2.2.2.1 else 0:=by
    rw[w.e4];cases(i==b.2.2.2.1)
    ·exact Int.le_refl _
    ·exact hL.2.1.1
   omega⟩
  have hz:b.2.2.2.1≠ -1→yG b b.2.2.2.1=true→b.2.2.2.2.1=0:=fun h1 h2=>by
   obtain⟨k1,_⟩:=hwd _ (yHc b);rw[w.e3]at h1 h2;rw[w.e4];rcases k1.u4 with⟨_,_,k3⟩ | ⟨_,_,_,_,k3⟩
   ·rcases k3 with k3 | ⟨k3,_⟩
    ·exact absurd k3 h1
    ·rw[h2]at k3; cases k3
   ·exact k3
  have old: ∀f,Ch b f→ ∃Bg,Wsup b.1 b.2.1 b.2.2.2.2.2.2.2.1 T L B b.2.2.2.1 Bg f (yG b)∧Wdat b.2.1 T b.2.2.2.2.2.1 R V b.2.2.2.1 Bg f (yG b) (yK b):=fun f hf=>by
   rw[w.e1,w.e2,w.e3,w.e7,r.s];exact⟨Bf,hwd f hf⟩
  obtain⟨c1,c2,c3,c4,c5⟩:=yBO b;have hcb2:=fun i m i0 i1 m0=>yxT (b:=b) (m:=m) w.kp (i:=i) i0 (by rw[w.e2]; exact i1) m0
  have hfc: ∀i,0≤i→i<g.1→yG (yp b) i=yG b i:=fun i i0 i1=>(hcb2 i 2 i0 i1 (by omega)).2
  refine⟨⟨c1.trans w.e1,c2.trans w.e2,c3.trans w.e3,(yOe b).trans w.e8,(y3y b).trans w.e9,yBU w.kp,fun i i0 i1=>(hfc i i0 i1).trans (w.fl i i0 i1),fun i m i0 i1 m0 hb=> ?_,fun _ f hf=> ?_,fun hu=>⟨yP1 hix hK hu,⟨R,yYv hix hz hK hu old⟩,?_,?_⟩⟩,c4.trans w.e4,fun e i m i0 i1 m0=> ?_⟩
  ·rw[(hcb2 i m i0 i1 (by omega)).1]at hb
   exact(w.bd i m i0 i1 m0).1 hb
  ·have hlr:Lf= -1∨(0≤Lf∧Lf<g.1):=by omega
   have ht:=yS4 (Lf:=Lf) (fl:=yG b) hix (by omega) hf (fun i _ _ h=>h) (.inl w.e3.symm) (fun f hf=>by
    have:=old f hf
    rw[w.e3]at this; exact this)
   rw[w.e1,w.e2]at ht;obtain⟨G',T',L',B',Q',R',Bf',k1,k2,k3,k4⟩:=ht;exact⟨G',T',L',B',Q',R',Bf',k1,k2,yHO k3 hfc,yLW k4 hfc⟩
  ·rw[(yYw (b:=b) (by rw[w.e7]; omega) hu).1,c5]
  ·intro h1 h2
   rw[c3]at h1 h2;rw[c4];rw[hfc _ (by rw[w.e3]at h1 ⊢; omega) (by rw[w.e3]; omega)]at h2;exact hz h1 h2
  ·rw[(hcb2 i m i0 i1 (by omega)).1]
   exact(w.bd i m i0 i1 m0).2 e
theorem y40 {a:dA} (hk:yI a) (ks:List Int):Ch a (yxp (yag a.2.2.1 ks)):=fun i n i0 i1 n0=>by
 have hn:=hk.1.2;unfold yxp;rw[yYE ks i0 (by omega)];exact y4l (ydP hk i0 i1).1 _ n0
def Can (K:Int) (P:(Int→Int→Int)→Int→Prop) (a:dA):Prop:= ∀f,Ch a f→ ∃V Lf,P V Lf∧WW K a.1 a.2.1 V Lf f (yG a) (yK a)
theorem y1g {K:Int} {VS:(Int→Int→Int)→Prop} {a:dA} (h:Dd K VS a):Can K (fun V Lf=>VS V∧Lf=a.2.2.2.1) a:=fun f hf=>by
 obtain⟨V,h1,h2⟩:=h f (yG a) a.2.2.2.1 hf (yLG a);exact⟨V,_,⟨h1,rfl⟩,h2⟩
theorem y5k {K:Int} {V:Int→Int→Int} {a:dA} (h:Lv K V a):Can K (fun W Lf=>W=V∧Lf=a.2.2.2.1) a:=by
 obtain⟨B0,hr⟩:=h.r;exact y1g (yVO hr h.x.xg h.x.xs)
theorem yO1 {K J:Int} {P Q:(Int→Int→Int)→Int→Prop} {a:dA} (h:Can K P a) (hj:K≤J) (hp: ∀V L,P V L→Q V L):Can J Q a:=fun f hf=>by
 obtain⟨V,L,h1,h2⟩:=h f hf;exact⟨V,L,hp V L h1,y2Q h2 hj⟩
theorem yOs {K fuse:Int} {P:(Int→Int→Int)→Int→Prop} {a:dA} (hk:yI a) (h:Can K P a) (hK:K+1≤60000) (ks:List Int) (hf: -1≤fuse∧fuse≤1000) :
  ∃x V Lf,yn1 a.2.2.1 ks a.1 fuse=(x,true)∧P V Lf∧Back (K+1) a.1 a.2.1 V Lf a.2.2.1 x:=by
 obtain⟨V,Lf,hp,G,T,L,B,Q,R,Bf,h1,h2,h3,h4⟩:=h _ (y40 hk ks)
 obtain⟨x,e,b,_⟩:=y1N (ks:=ks) hk.1.2 (fun i i0 i1=>by
  have:=ydP hk i0 i1
  exact⟨this.1,this.2.1⟩) h1 h2 hK hf h3 h4
 exact⟨x,V,Lf,e,hp,b⟩
theorem y4d {K id:Int} {g:dG} {V:Int→Int→Int} {Lf:Int} {l:List dM} {x:dA} (h:Back K id g V Lf l x) (hd:ya x=true):Can K (fun W L=>W=V∧L=Lf) x:=fun f hf=>by
 have:=h.dn hd f hf;rw[← h.bi,← h.bg]at this;exact⟨V,Lf,⟨rfl,rfl⟩,this⟩
theorem y2w: ∀(k i:Nat) (a:dA),ycB a→(∀b,goE yp9 .inl k i a= .inl b→ycB b)∧ ∀b,goE yp9 .inl k i a= .inr b→ycB b
 | 0,_,a,h=>⟨fun b hb=>by cases hb; exact h,fun b hb=>by cases hb⟩
 | k+1,i,a,h=>by
  have h1:ycB (yhH a):=y1n _ h;have h2:ycB (yku a):=yYH (a:=yC (yhH a)) _ _ h1;unfold goE yp9;cases(!(yaz a a.2.2.2.2.2.1).2||leb 60000 a.2.2.2.2.2.1)
  ·rw[h1.1,h2.1]
   exact y2w k (i+1) (yku a) h2
  ·exact⟨fun b hb=>by cases hb; exact h,fun b hb=>by cases hb⟩
theorem y2c {a:dA} (h:ycB a):ycB (ylN a):=by
 unfold ylN;cases(yal a&&(!(ya a)&&(!a.2.2.2.2.2.2.2.2.2.2.2&&ltb a.2.2.2.2.2.2.2.1 60000)))
 ·exact h
 ·obtain⟨h1,h2⟩:=y2w 4 0 a h
  show ycB (yLz a);unfold yLz;cases hg:goE yp9 .inl 4 0 a with
  | inl b=>exact y28 (h1 b hg)
  | inr b=>exact h2 b hg
theorem y4b (l:List dM) (id:Int):ya (yfI l id).1=false:=by
 unfold yfI;cases((ydF l id).2&&((l.length:Int)==(ydF l id).1.2.2.2.1&&yal (yGX l id)))<;>rfl
theorem y3n {l:List dM} {ks:List Int} {id:Int} {x:dA} (h:yn1 l ks id (-1)=(x,true)):ya x=false:=by
 have hd:=y4b (yag l ks) id;unfold yn1 at h;generalize yfI (yag l ks) id=A at h hd;rw[zk0 (show(-1:Int)≤ -1 by omega),zk0 (show(-1:Int)≤1000 by omega),Bool.and_self,cond_true]at h;have hf:ycB (yhD A.1 (-1) (ya A.1)):=⟨hd,rfl⟩;have hr:=(y2c hf).1;generalize ylN (yhD A.1 (-1) (ya A.1))=Z at h hr;cases ha:A.2
 ·rw[ha,cond_false]at h
  exact absurd (congrArg (fun z=>z.2) h) (by simp)
 ·rw[ha,cond_true]at h
  have h:=congrArg (fun z=>z.1) h;simp only at h;rw[← h]; exact hr
theorem yTR {a:dA} (s:Int) (d:List Int) (h:yI a):yI (yz a s d).2:=by
 have hc:yI (yv a):=by
  unfold yv;cases leb 4 (i64.wrap (a.2.2.2.2.2.1-a.2.2.2.2.2.2.1))
  ·exact h
  ·exact yBU h
 unfold yz;have hr:=ywZ ((yv a).2.2.2.2.2.1,s,d) hc;generalize yo (yv a) ((yv a).2.2.2.2.2.1,s,d)=R at hr ⊢;have hq:yI (yB (yC R) s d):=yFM (a:=yC R) s d hr;generalize yB (yC R) s d=Q at hq ⊢;cases ya (yv a)
 ·cases ya R
  ·exact hq
  ·exact hr
 ·exact hc
theorem yTQ {a:dA} (s:Int) (h:yI a):yI (yaR a s).2:=by
 unfold yaR;cases ltb (yam a.2.2.2.2.2.2.2.2.1 s) 0
 ·generalize (nth a.2.2.2.2.2.2.2.2.1 (yam a.2.2.2.2.2.2.2.2.1 s) (0,[])).2=D
  have hw:=yTR s D h;cases(yP a s D !=0)
  ·cases((yz a s D).1==0)
   ·exact hw
   ·exact hw
  ·exact h
 ·exact h
theorem y1r: ∀(k i:Nat) (a:dA),yI a→yI (goE ylX (fun b=>(0,b)) k i a).2
 | 0,_,_,h=>h
 | k+1,i,a,h=>by
  have hf:=yTQ (nth a.2.2.2.2.2.2.2.2.1 0 (0,[])).1 h;unfold goE ylX;cases hc:((yaR a (nth a.2.2.2.2.2.2.2.2.1 0 (0,[])).1).1 !=0)
  ·exact y1r k (i+1) _ hf
  ·exact hf
theorem yZ6 {a:dA} {m:Int} (h:yI a) (hl:a.2.2.2.1= -1) (hm:inb m a.2.2.1.length=true):yI (yau a m):=by
 have hmi:=zj4.1 hm;obtain⟨⟨g1,g2⟩,g3⟩:=h;refine⟨⟨?_,?_⟩,g3⟩
 ·show yFP m a.2.2.2.2.2.2.2.2.2.2.2 a.2.1.2 (a.2.2.1.set m.toNat (yft (nth a.2.2.1 m yc)))
  refine ynB (fun i hi=> ?_) (fun hi=> ?_)
  ·obtain⟨e1,e2,e3⟩:=g1 i hi
   refine⟨e1,e2,fun e=> ?_⟩;rcases e3 e with e | e
   ·omega
   ·exact .inr e
  ·have:=g1 m.toNat hi
   rw[Int.toNat_of_nonneg hmi.1]at this;exact⟨yWH this.1,this.2.1,fun _=> .inl (Int.toNat_of_nonneg hmi.1)⟩
 ·show((a.2.2.1.set m.toNat (yft (nth a.2.2.1 m yc))).length:Int)=a.2.1.1
  rw[List.length_set]; exact g2
theorem yZ7 {a:dA} (h:yI a) (hgo:yd a.2.1=true):yI (yaa a):=by
 obtain⟨⟨g1,g2⟩,g3⟩:=h;have hg:=yl.1 hgo;refine⟨⟨ynB g1 (fun hi=>⟨yKG (by omega) (by omega),?_,fun e=> ?_⟩),?_⟩,g3⟩
 ·unfold ya5
  rw[zk0 (show 1≤6+a.2.1.2 by omega),zk0 (show 6+a.2.1.2≤20 by omega)];show((List.replicate (6+a.2.1.2).toNat ([]:List Int)).length:Int)=6+a.2.1.2;rw[List.length_replicate]; omega
 ·unfold ya5 at e
  rw[zk0 (show 1≤6+a.2.1.2 by omega),zk0 (show 6+a.2.1.2≤20 by omega)]at e;cases e
 ·show((a.2.2.1.set a.2.2.2.1.toNat (ya5 (6+a.2.1.2))).length:Int)=a.2.1.1
  rw[List.length_set]; exact g2
theorem y2g {a b:dA} (h:yI a) (hgo:yd a.2.1=true) (ht:Turned a b):yI b:=by
 cases ht with
 | same=>exact h
 | put b x hb hx=>unfold yqz; cases(ybI a (yY a.2.1 b)).2<;>exact h
 | flush s=>exact yTQ s h
 | all=>exact y1r _ 0 a h
 | fail m hl hm =>
  have hf:=yZ6 h hl hm;unfold yhK;rw[show(a.2.2.2.1== -1)=true from beq_iff_eq.2 hl];show yI (bif(!(ya a)&&(!a.2.2.2.2.2.2.2.2.2.2.2&&ltb a.2.2.2.2.2.2.2.1 60000))then yD (yau a m)else yau a m);cases(!(ya a)&&(!a.2.2.2.2.2.2.2.2.2.2.2&&ltb a.2.2.2.2.2.2.2.1 60000))
  ·exact hf
  ·exact yyu hf
 | spare _ _=>exact yyu (yZ7 h hgo)
 | step hl _ _ =>
  have hp:yI (yaE a):=ywY h hl;unfold yfC;cases(yS a a.2.2.2.2.1).2
  ·exact h
  ·generalize yaE a=R at hp ⊢
   cases ya R
   ·exact hp
   ·exact hp
 | check=>exact yBU h
 | spoil m s _ hm _ _=>exact yqt h hm (fun g=>⟨yRW _ g.1,by rw[(yn2 _ _).1]; exact g.2.1,by rw[(yn2 _ _).2]; exact g.2.2⟩)
theorem yoU (p:Nat→Bool): ∀n,decide (ym1 p n=0)=(List.range n).all p
 | 0=>rfl
 | n+1=>by
  rw[List.range_succ,List.all_append,← yoU p n,yBV];cases hp:p n
  ·simp[hp]
  ·simp[hp]
theorem y4r {k:Int} {V:Int→Int→Int} {a:dA} {s:Int} (h:Ix k V a) (s0:0≤s) (s1:s<a.2.1.2):yre a s=(0,decide (ybx a s=0)):=by
 have hlen:=h.xk.1.2;have hN:a.2.2.1.length=a.2.1.1.toNat:=by omega
 have hw:yC1 a s=decide (ybx a s=0):=by
  unfold yC1 ybx;rw[yoU,hN,Bool.eq_iff_iff,List.all_eq_true,List.all_eq_true];constructor
  ·intro g i hi
   have hi':=List.mem_range.1 hi;have:=g i hi;rwa[(ysI h.xc.1 h.xk h.xv (show(0:Int)≤(i:Int)by omega) (by omega) s0 s1).1]at this
  ·intro g i hi
   have hi':=List.mem_range.1 hi;rw[(ysI h.xc.1 h.xk h.xv (show(0:Int)≤(i:Int)by omega) (by omega) s0 s1).1];exact g i hi
 unfold yre;rw[hw];cases hd:decide (ybx a s=0)
 ·rfl
 ·rw[cond_true,hN]
  congr 1
  have:(List.range a.2.1.1.toNat).map (fun(i:Nat)=>yjj a i s)=ydL V a.2.1.1 s:=by
   unfold ydL;refine List.map_congr_left fun i hi=> ?_
   have hi':=List.mem_range.1 hi;refine(ysI h.xc.1 h.xk h.xv (show(0:Int)≤(i:Int)by omega) (by omega) s0 s1).2 ?_;unfold ybx at hd;rw[yoU,List.all_eq_true]at hd;exact hd i hi
  rw[this];exact h.xe.ev s s0 s1
theorem y2x {k:Int} {V:Int→Int→Int} {a:dA} (h:Ix k V a):y0O a=true:=by
 unfold y0O;rw[List.all_eq_true];intro s hs;have:=List.mem_range.1 hs;rw[y4r h (by omega) (by omega)];simp
theorem yFN {p:Nat→Bool}: ∀{n:Nat} {j:Nat},ym1 p n<2→j<n→p j=false→ ∀i,i<n→i≠j→p i=true
 | 0,j,_,hj,_=>absurd hj (Nat.not_lt_zero _)
 | n+1,j,h,hj,hp=>fun i hi hij=>by
  rw[yBV]at h
  have z: ∀{k:Nat},ym1 p n=0→k<n→p k=true:=fun{k} h0 hk=>by
   have:decide (ym1 p n=0)=true:=decide_eq_true h0;rw[yoU,List.all_eq_true]at this;exact this k (List.mem_range.2 hk)
  cases hn:p n
  ·rw[hn,cond_false]at h
   have h0:ym1 p n=0:=by omega
   by_cases hjn:j=n
   ·exact z h0 (by omega)
   ·have:=z (k:=j) h0 (by omega)
    rw[hp]at this; cases this
  ·rw[hn,cond_true]at h
   have hjn:j≠n:=fun e=>by rw[e,hn]at hp; cases hp
   by_cases hin:i=n
   ·rw[hin]; exact hn
   ·exact yFN h (by omega) hp i (by omega) hij
theorem y4B {B0:Int} {V:Int→Int→Int} {v:List Int} {a:dA} (hk:yI a) (hu:ya a=false) (hm:inb a.2.2.2.1 a.2.2.1.length=true) (hb0:0≤a.2.2.2.2.1) (hb1:a.2.2.2.2.1<1000) (h:Rob B0 V a):Rob B0 V (ybq a a.2.2.2.1 (yA a.2.2.2.2.1) v):=by
 obtain⟨R,hB,hr⟩:=h;have hmi:=zj4.1 hm;have hlen:=hk.1.2;have hda:=yiO hb0 (by omega);have hd:=yB5 (yA a.2.2.2.2.1) v hu hm
 have ho: ∀i,0≤i→i≠a.2.2.2.1→yj (ybq a a.2.2.2.1 (yA a.2.2.2.2.1) v) i=yj a i:=fun i i0 hi=>by
  rcases hd.2.2 with⟨_,e⟩ | ⟨_,e⟩
  ·rw[e i i0,show(a.2.2.2.1==i)=false from beq_eq_false_iff_ne.2 (fun e=>hi e.symm)]; rfl
  ·exact e i
 have hl:TrD (yA a.2.2.2.2.1) v (yj a a.2.2.2.1) (yj (ybq a a.2.2.2.1 (yA a.2.2.2.2.1) v) a.2.2.2.1):=by
  rcases hd.2.2 with⟨_,e⟩ | ⟨_,e⟩
  ·rw[e _ hmi.1,beq_self_eq_true]; exact y2O _ _ _
  ·rw[e]; exact yxu _ _ _
 obtain⟨c1,c2,c3,c4,c5,c6,c7⟩:=ybk (yhq a a.2.2.2.1 (yA a.2.2.2.2.1) v);generalize ybq a a.2.2.2.1 (yA a.2.2.2.2.1) v=P at ho hl c1 c2 c3 c4 c5 c6 c7
 have hfl: ∀i,0≤i→i<a.2.1.1→yG P i=yG a i:=fun i i0 i1=>by
  by_cases e:i=a.2.2.2.1
  ·rw[e]; exact hl.2.1
  ·unfold yG; rw[ho i i0 e]
 have hbl: ∀i n,0≤i→yK P i n=true→yK a i n=true:=fun i n i0 hb=>by
  by_cases e:i=a.2.2.2.1
  ·rw[e]at hb ⊢; exact hl.2.2.2 n hb
  ·unfold yK at hb ⊢; rw[ho i i0 e]at hb; exact hb
 refine⟨R,by rw[c4]; exact hB,fun f' fl Lf hf hal=> ?_⟩;rw[c2,c3]at hal;have hal2:=yxC hal hfl;have hLf:Lf=a.2.2.2.1:=by rcases hal with⟨h1,_⟩ | ⟨_,_,h3,_⟩<;>omega
 obtain⟨f,hfd⟩: ∃f:Int→Int→List Int,f=fun i n=>if i=a.2.2.2.1∧n=yA a.2.2.2.2.1 then ycb (yj a a.2.2.2.1) n else f' i n:=⟨_,rfl⟩
 have hfe: ∀i n,¬(i=a.2.2.2.1∧n=yA a.2.2.2.2.1)→f' i n=f i n:=fun i n hi=>by rw[hfd]; exact(if_neg hi).symm
 have hch:Ch a f:=fun i n i0 i1 n0=>by
  by_cases e:i=a.2.2.2.1∧n=yA a.2.2.2.2.1
  ·rw[hfd]; simp only[if_pos e]; rw[e.1]; exact ywW _ _
  ·rw[← hfe i n e]
   have h1:=hf i n i0 (by rw[c2]; exact i1) n0;by_cases e2:i=a.2.2.2.1
   ·rw[e2]at h1 ⊢
    rcases hl.1 n _ n0 h1 with h2 | ⟨h2,_⟩
    ·exact h2
    ·exact absurd ⟨e2,h2⟩ e
   ·rw[ho i i0 e2]at h1; exact h1
 obtain⟨Bf,⟨p1,p2⟩,h1,h2⟩:=hr f fl Lf hch hal2;have h01: ∀i n,(n=0∨n=1)→f' i n=f i n:=fun i n hn=>hfe i n (fun e=>by omega)
 have he:Eq0 P fl Lf→Eq0 a fl Lf:=fun e=>⟨e.1.trans c3,fun i i0 i1=>(e.2 i i0 (by rw[c2]; exact i1)).trans (hfl i i0 i1)⟩
 have hBf:Bf≤B0:=by
  obtain⟨j,j0,j1,_⟩:=h1.u3;have:=(yfk (h1.u0 j j0 j1)).2.2.2.2.2.1;rcases h1.u4 with⟨_,h3,_⟩ | ⟨_,_,_,_,h3⟩<;>omega
 rw[c1,c2,c3,c5,c6,c7];refine⟨Bf,⟨fun e=>p1 (he e),fun e e1 e2=> ?_⟩,ygx h1 (fun i n _ _ _ hn=>h01 i n hn),ygw h2 (fun i n i0 i1 hi hn=> ?_) (fun i n i0 _ hb=>hbl i n i0 hb)⟩
 ·obtain⟨n,s',hn,hsv⟩:=p2 (he e) e1 e2
  exact⟨n,s',hn,by rw[h01 Lf n hn]; exact hsv⟩
 ·by_cases e:i=a.2.2.2.1∧n=yA a.2.2.2.2.1
  ·exact .inr (.inr ⟨by omega,by omega,by omega⟩)
  ·refine .inl ⟨hfe i n e,?_⟩
   by_cases e2:i=a.2.2.2.1
   ·rw[e2]; exact hl.2.2.1 n (fun e3=>e ⟨e2,e3⟩)
   ·unfold yK; rw[ho i i0 e2]
theorem y48 {K:Int} {V:Int→Int→Int} {a:dA} (h:Lv K V a) (hm:inb a.2.2.2.1 a.2.2.1.length=true) (hf:(nth a.2.2.1 a.2.2.2.1 yc).2.2.1=false) (hb:a.2.2.2.2.1<a.2.1.2) :
  (ya (yfC a).2=false→Lv K V (yfC a).2)∧(ya (yfC a).2=true→Dd K (· =V) (yfC a).2):=by
 have hi:=y44 h.x hm hf hb;have c:=h.x.xc;unfold yT at c;have hg:=yl.1 c.1;have hmi:=zj4.1 hm;have hlen:=h.x.xk.1.2;obtain⟨B0,hR⟩:=h.r;have hxg:=h.x.xg;have hxs:=h.x.xs;unfold yfC at hi ⊢;cases hw:(yS a a.2.2.2.2.1).2
 ·exact⟨fun _=>h,fun hd=>by have hd:ya a=true:=hd; rw[h.x.xu]at hd; cases hd⟩
 ·rw[hw]at hi
  have rs:=y4B (v:= [nth (yS a a.2.2.2.2.1).1 a.2.2.2.1 0]) h.x.xk h.x.xu hm (by omega) (by omega) hR;have hd:=yB5 (yA a.2.2.2.2.1) [nth (yS a a.2.2.2.2.1).1 a.2.2.2.1 0] h.x.xu hm;obtain⟨c1,c2,c3,c4,c5,c6,c7⟩:=ybk (yhq a a.2.2.2.1 (yA a.2.2.2.2.1) [nth (yS a a.2.2.2.2.1).1 a.2.2.2.1 0]);have hS:yaE a=ybq a a.2.2.2.1 (yA a.2.2.2.2.1) [nth (yS a a.2.2.2.2.1).1 a.2.2.2.1 0]:=rfl;rw[← hS]at rs hd c1 c2 c3 c4 c5 c6 c7
  have hlack:ybx a a.2.2.2.2.1<2:=by
   rw[y1q h.x (by omega) hb]at hw;by_cases h2:ybx a a.2.2.2.2.1<2
   ·exact h2
   ·rw[decide_eq_false h2]at hw; cases hw
  generalize yaE a=P at hi rs hd c1 c2 c3 c4 c5 c6 c7;cases hp:ya P
  ·rw[hp]at hi
   have hi2:=hi hp;refine⟨fun _=>⟨hi2,⟨B0,?_⟩,?_⟩,fun hd2=>by have hd2:ya P=true:=hd2; rw[hp]at hd2; cases hd2⟩
   ·obtain⟨R,r1,r2⟩:=rs
    refine⟨R,?_,r2⟩;show B0≤i64.wrap (P.2.2.2.2.1+1);rw[wr (by omega) (by omega)]; omega
   ·refine⟨fun _ i s i0 i1 hne s0 s1=> ?_,fun _ hfl=> ?_⟩
    ·have i1:i<P.2.1.1:=i1
     have hne:i≠P.2.2.2.1:=hne;rw[c2]at i1;rw[c3]at hne;have s1:s<i64.wrap (P.2.2.2.2.1+1):=s1;rw[wr (by omega) (by omega)]at s1;show yK P i (s+6)=false
     have e:yj P i=yj a i:=by
      rcases hd.2.2 with⟨_,e⟩ | ⟨_,e⟩
      ·rw[e i i0,show(a.2.2.2.1==i)=false from beq_eq_false_iff_ne.2 (by omega)]; rfl
      ·exact e i
     show yaZ (yj P i) (s+6)=false;rw[e];by_cases hs:s<a.2.2.2.2.1
     ·exact h.n.n (by omega) i s i0 (by omega) (by omega) s0 hs
     ·have hse:s=a.2.2.2.2.1:=by omega
      subst hse
      have hL:(fun(i:Nat)=>yad a a.2.2.2.2.1 i) a.2.2.2.1.toNat=false:=by
       show yad a a.2.2.2.2.1 ((a.2.2.2.1.toNat:Nat):Int)=false;rw[Int.toNat_of_nonneg hmi.1];unfold yad yaf;rw[bne_self_eq_false,zk1 (Int.le_refl _),Bool.or_self,Bool.and_false]; rfl
      have:=yFN (p:=fun(i:Nat)=>yad a a.2.2.2.2.1 i) (n:=a.2.1.1.toNat) (j:=a.2.2.2.1.toNat) hlack (by omega) hL i.toNat (by omega) (by omega);have this:yad a a.2.2.2.2.1 ((i.toNat:Nat):Int)=true:=this;rw[Int.toNat_of_nonneg i0]at this;unfold yad at this;rw[Bool.and_eq_true,Bool.not_eq_true']at this;exact this.2
    ·have hfl:yG P P.2.2.2.1=true:=hfl
     rw[c3]at hfl
     have:yG P a.2.2.2.1=yG a a.2.2.2.1:=by
      unfold yG;rcases hd.2.2 with⟨_,e⟩ | ⟨_,e⟩
      ·rw[e _ hmi.1,beq_self_eq_true,cond_true,yFL]
      ·rw[e]
     rw[this]at hfl;have hf:yG a a.2.2.2.1=false:=hf;rw[hf]at hfl; cases hfl
  ·exact⟨(fun hu=>by have hu:ya P=false:=hu; rw[hp]at hu; cases hu),fun _=>yVO (a:=P) rs (by rw[c7]; exact hxg) (by rw[c5]; exact hxs)⟩
theorem y3j {m:dM} {n k:Int} {v:List Int} (h:ynn (spoil m n) k v):ynn m k v:=by
 unfold spoil at h;cases hc:(yw m&&(inb n m.1.length&& !(m.2.2.2.any (· ==n))))
 ·rw[hc]at h; exact h
 ·rw[hc]at h; exact h
theorem yYt {m:dM} {n k:Int}:(yaZ m k=true→yaZ (spoil m n) k=true)∧(yaZ (spoil m n) k=true→yaZ m k=true∨k=n):=by
 unfold spoil;cases hc:(yw m&&(inb n m.1.length&& !(m.2.2.2.any (· ==n))))
 ·exact⟨id,.inl⟩
 ·have mem: ∀x,x∈yuC m.2.2.2 n↔(x∈m.2.2.2∨x=n):=fun x=>by
   unfold yuC;rw[List.mem_append,List.mem_cons,List.mem_filter,List.mem_filter];constructor
   ·rintro(h | h | h)
    ·exact .inl h.1
    ·exact .inr h
    ·exact .inl h.1
   ·rintro(h | h)
    ·rcases Int.lt_trichotomy x n with g | g | g
     ·exact .inl ⟨h,zkw g⟩
     ·exact .inr (.inl g)
     ·exact .inr (.inr ⟨h,zkw g⟩)
    ·exact .inr (.inl h)
  constructor
  ·intro h
   obtain⟨x,hx,e⟩:=List.any_eq_true.1 (show m.2.2.2.any (· ==k)=true from h);exact List.any_eq_true.2 ⟨x,(mem x).2 (.inl hx),e⟩
  ·intro h
   obtain⟨x,hx,e⟩:=List.any_eq_true.1 (show(yuC m.2.2.2 n).any (· ==k)=true from h);rcases(mem x).1 hx with g | g
   ·exact .inl (List.any_eq_true.2 ⟨x,g,e⟩)
   ·exact .inr (by rw[← beq_iff_eq.1 e,g])
theorem y4u {K m s:Int} {V:Int→Int→Int} {a:dA} (h:Lv K V a) (hl:a.2.2.2.1= -1) (hm:inb m a.2.2.1.length=true) (s0:0≤s) (s1:s<a.2.1.2):Lv K V (ybp a m (spoil (nth a.2.2.1 m yc) (yA s))):=by
 have hx:=y4p (n:=yA s) h.x hm;have hmi:=zj4.1 hm;have hg:=yl.1 h.x.xc.1;have hda:=yiO s0 (by omega);have hd: ∀i,0≤i→yj (ybp a m (spoil (nth a.2.2.1 m yc) (yA s))) i=bif m==i then spoil (yj a m) (yA s)else yj a i:=fun i i0=>yLO hm i0
 obtain⟨B0,R,hB,hr⟩:=h.r
 have e1: ∀i,0≤i→yj (ybp a m (spoil (nth a.2.2.1 m yc) (yA s))) i=yj a i∨(i=m∧yj (ybp a m (spoil (nth a.2.2.1 m yc) (yA s))) i=spoil (yj a i) (yA s)):=fun i i0=>by
  by_cases e:m=i
  ·subst e; rw[hd m i0,beq_self_eq_true]; exact .inr ⟨rfl,rfl⟩
  ·rw[hd i i0,show(m==i)=false from beq_eq_false_iff_ne.2 e]; exact .inl rfl
 refine⟨hx,⟨B0,R,hB,fun f fl Lf hf hal=> ?_⟩,⟨fun hn=>absurd hl hn,fun hn=>absurd hl hn⟩⟩
 have hfl: ∀i,0≤i→i<a.2.1.1→yG (ybp a m (spoil (nth a.2.2.1 m yc) (yA s))) i=yG a i:=fun i i0 _=>by
  unfold yG;rcases e1 i i0 with e | ⟨_,e⟩
  ·rw[e]
  ·rw[e,(yn2 _ _).2]
 have hal2:Al a.2.2.2.1 a.2.1.1 (yG a) fl Lf:=yxC hal hfl
 have hch:Ch a f:=fun i n i0 i1 n0=>by
  have:=hf i n i0 i1 n0;rcases e1 i i0 with e | ⟨_,e⟩
  ·rw[e]at this; exact this
  ·rw[e]at this; exact y3j this
 obtain⟨Bf,⟨p1,p2⟩,h1,h2⟩:=hr f fl Lf hch hal2;have he:Eq0 (ybp a m (spoil (nth a.2.2.1 m yc) (yA s))) fl Lf→Eq0 a fl Lf:=fun e=>⟨e.1,fun i i0 i1=>(e.2 i i0 i1).trans (hfl i i0 i1)⟩
 refine⟨Bf,⟨fun e=>p1 (he e),fun e=>p2 (he e)⟩,h1,⟨h2.e,h2.q,fun i t i0 i1 t0 t1 hi hlv hb hj=>h2.d i t i0 i1 t0 t1 hi hlv ?_ hj,h2.r,h2.h,h2.v,h2.l,fun i n i0 i1 hi hb=> ?_⟩⟩
 ·cases hx:yK a i (t+6)
  ·rfl
  ·rw[← hb]
   unfold yK at hx ⊢;rcases e1 i i0 with e | ⟨_,e⟩
   ·rw[e]; exact hx.symm
   ·rw[e]; exact(yYt.1 hx).symm
 ·unfold yK at hb
  rcases e1 i i0 with e | ⟨_,e⟩
  ·rw[e]at hb; exact h2.b i n i0 i1 hi hb
  ·rw[e]at hb
   rcases yYt.2 hb with h3 | h3
   ·exact h2.b i n i0 i1 hi h3
   ·omega
def Any (_:Int→Int→Int):Prop:=True
theorem y1v {K:Int} {V:Int→Int→Int} {a:dA} (s:Int) (h:Lv K V a) (hk:K+1≤60000) :
  (ya (yaR a s).2=false→ ∃V',Lv (K+2) V' (yaR a s).2)∧(ya (yaR a s).2=true→Dd (K+2) Any (yaR a s).2):=by
 have same:(ya a=false→ ∃V',Lv (K+2) V' a)∧(ya a=true→Dd (K+2) Any a):=⟨fun _=>⟨V,ysB h (by omega)⟩,fun hd=>by rw[h.x.xu]at hd; cases hd⟩;unfold yaR;cases h0:ltb (yam a.2.2.2.2.2.2.2.2.1 s) 0
 ·generalize (nth a.2.2.2.2.2.2.2.2.1 (yam a.2.2.2.2.2.2.2.2.1 s) (0,[])).2=D
  cases hc:(yP a s D !=0)
  ·obtain⟨_,z1,z2,_,z4,_,z6,_⟩:=yxU (bne_eq_false_iff_eq.1 hc)
   obtain⟨w1,w2⟩:=y1x h z4 z1 z2 z6 hk;have wg:=yY1 a s D;simp only[cond_false];generalize yz a s D=W at w1 w2 wg;cases hw:(W.1==0)
   ·exact⟨fun hu=>⟨_,(w1 hu).1⟩,fun hu=>ylP (w2 hu).1 (Int.le_refl _) (fun _ _=>trivial)⟩
   ·refine⟨fun hu=>⟨_,y4s (w1 hu).1 (by rw[wg]; exact yYB _ h.x.xc.2.2.1)⟩,fun hu=>absurd (beq_iff_eq.1 hw) (w2 hu).2⟩
  ·exact same
 ·exact same
theorem y1w {k:Int}: ∀(n i:Nat) (j:Int) (V:Int→Int→Int) (a:dA),Lv j V a→j+2*n≤k→k≤60000 →
  (ya (goE ylX (fun b=>((0:Int),b)) n i a).2=false→ ∃V',Lv k V' (goE ylX (fun b=>((0:Int),b)) n i a).2)∧(ya (goE ylX (fun b=>((0:Int),b)) n i a).2=true→Dd k Any (goE ylX (fun b=>((0:Int),b)) n i a).2)
 | 0,_,j,V,a,h,h1,_=>⟨fun _=>⟨V,ysB h (by omega)⟩,fun hd=>by have hd:ya a=true:=hd; rw[h.x.xu]at hd; cases hd⟩
 | n+1,i,j,V,a,h,h1,h2=>by
  have hf:=y1v (nth a.2.2.2.2.2.2.2.2.1 0 (0,[])).1 h (by omega);unfold goE ylX;generalize yaR a (nth a.2.2.2.2.2.2.2.2.1 0 (0,[])).1=F at hf;cases hc:(F.1 !=0)
  ·simp only[cond_false]
   cases hd:ya F.2
   ·obtain⟨V1,h3⟩:=hf.1 hd
    exact y1w n (i+1) (j+2) V1 _ h3 (by omega) h2
   ·have e:(goE ylX (fun b=>((0:Int),b)) n (i+1) F.2).2=F.2:=yYq n (i+1) hd
    unfold ylX at e;rw[e];exact⟨(fun hu=>by rw[hd]at hu; cases hu),fun _=>ylP (hf.2 hd) (by omega) (fun _ h=>h)⟩
  ·simp only[cond_true]
   exact⟨fun hu=>(hf.1 hu).imp (fun V h=>ysB h (by omega)),fun hu=>ylP (hf.2 hu) (by omega) (fun _ h=>h)⟩
theorem y5s {k:Int} {V:Int→Int→Int} {a:dA} (h:Lv k V a) (hk:k+16≤60000):(ya (yJS a).2=false→ ∃V',Lv (k+16) V' (yJS a).2)∧(ya (yJS a).2=true→Dd (k+16) Any (yJS a).2):=by
 have:=yxY h.x.xc.2.2.1 h.x.xc.1;exact y1w _ 0 k V a h (by omega) hk
theorem yKF {k:Int} {V:Int→Int→Int} {a b:dA} (h:Lv k V a) (ht:Turned a b) (hk:k+16≤60000):(ya b=false→ ∃V',Lv (k+16) V' b)∧(ya b=true→Dd (k+16) Any b):=by
 have one: ∀{r:dA} {K:Int},K≤k+16→(ya r=false→Lv K V r)∧(ya r=true→Dd K (· =V) r)→(ya r=false→ ∃V',Lv (k+16) V' r)∧(ya r=true→Dd (k+16) Any r):=fun hK g=>⟨fun hu=>⟨V,ysB (g.1 hu) hK⟩,fun hu=>ylP (g.2 hu) hK (fun _ _=>trivial)⟩
 have stay: ∀{r:dA},Lv k V r→(ya r=false→ ∃V',Lv (k+16) V' r)∧(ya r=true→Dd (k+16) Any r):=fun g=>⟨fun _=>⟨V,ysB g (by omega)⟩,fun hd=>by rw[g.x.xu]at hd; cases hd⟩
 cases ht with
 | same=>exact stay h
 | put b x hb hx=>exact stay (y5u h hb hx)
 | flush s =>
  have g:=y1v s h (by omega);exact⟨fun hu=>(g.1 hu).imp (fun V h=>ysB h (by omega)),fun hu=>ylP (g.2 hu) (by omega) (fun _ h=>h)⟩
 | all=>exact y5s h hk
 | fail m hl hm=>exact one (by omega) (y47 h hl hm (by omega))
 | spare hl hf=>exact one (by omega) (y4t h hl hf (by omega))
 | step hl hf hb=>exact one (by omega) (y48 h hl hf hb)
 | check=>exact one (by omega) (y1u h (by omega))
 | spoil m s hl hm s0 s1=>exact stay (y4u h hl hm s0 s1)
theorem yKD {p:Nat→Bool} {j:Nat}: ∀{n:Nat},(∀i,i<n→i≠j→p i=true)→ym1 p n≤1∧(n≤j→ym1 p n=0)
 | 0,_=>⟨Nat.zero_le _,fun _=>rfl⟩
 | n+1,h=>by
  obtain⟨h1,h2⟩:=yKD (n:=n) (fun i hi hj=>h i (by omega) hj);rw[yBV];cases hp:p n
  ·have:n=j:=Classical.byContradiction fun e=>by rw[h n (by omega) e]at hp; cases hp
   rw[cond_false,h2 (by omega)];exact⟨by omega,fun h=>by omega⟩
  ·rw[cond_true]
   exact⟨h1,fun h=>h2 (by omega)⟩
theorem y46 {a:dA} {s j:Int} (j0:0≤j) (h: ∀i,0≤i→i<a.2.1.1→i≠j→yad a s i=true):ybx a s<2:=by
 have:=(yKD (p:=fun(i:Nat)=>yad a s i) (j:=j.toNat) (n:=a.2.1.1.toNat) (fun i hi hj=>h i (by omega) (by omega) (by omega))).1;unfold ybx;omega
theorem yTO {K:Int} {V:Int→Int→Int} {a:dA} (h:Ix K V a):yhJ a=bif(List.range a.2.1.2.toNat).all (fun(s:Nat)=>decide (ybx a s<2))then(List.range a.2.1.2.toNat).flatMap (fun(s:Nat)=>yey V a.2.1 s)else[]:=by
 unfold yhJ
 have e: ∀s,s∈List.range a.2.1.2.toNat→ydG a (s:Int)=bif decide (ybx a s<2)then(yey V a.2.1 s,true)else([],false):=fun s hs=>by
  have:=List.mem_range.1 hs;exact y29 h (by omega) (by omega)
 have h1:(List.range a.2.1.2.toNat).all (fun(s:Nat)=>(ydG a s).2)=(List.range a.2.1.2.toNat).all (fun(s:Nat)=>decide (ybx a s<2)):=by
  rw[Bool.eq_iff_iff,List.all_eq_true,List.all_eq_true];constructor
  ·intro g s hs
   have:=g s hs;rw[e s hs]at this;cases hd:decide (ybx a s<2)
   ·rw[hd]at this; cases this
   ·rfl
  ·intro g s hs
   rw[e s hs,g s hs]; rfl
 rw[yD4 h,h1,Bool.true_and];cases hc:(List.range a.2.1.2.toNat).all (fun(s:Nat)=>decide (ybx a s<2))
 ·rfl
 ·rw[cond_true,cond_true]
  rw[List.all_eq_true]at hc;rw[List.flatMap_def,List.flatMap_def];refine congrArg List.flatten (List.map_congr_left fun s hs=> ?_);rw[e s hs,hc s hs]; rfl
def y2T (a:dA):Prop:= ∀s,0≤s→s<a.2.1.2→ybx a s<2
theorem yD2 {K:Int} {V:Int→Int→Int} {a:dA} (h:Ix K V a) (hf:y2T a):yhJ a=(List.range a.2.1.2.toNat).flatMap (fun(s:Nat)=>yey V a.2.1 s):=by
 rw[yTO h,show(List.range a.2.1.2.toNat).all (fun(s:Nat)=>decide (ybx a s<2))=true from List.all_eq_true.2 fun s hs=>decide_eq_true (hf s (by omega) (by have:=List.mem_range.1 hs; omega))]; rfl
theorem y1k {K:Int} {V:Int→Int→Int} {a:dA} (h:Ix K V a) (hn:(yhJ a).length≠0):y2T a:=fun s s0 s1=>by
 rw[yTO h]at hn;cases hc:(List.range a.2.1.2.toNat).all (fun(s:Nat)=>decide (ybx a s<2))
 ·rw[hc]at hn; exact absurd rfl hn
 ·rw[List.all_eq_true]at hc
  have:=of_decide_eq_true (hc s.toNat (List.mem_range.2 (by omega)));rw[Int.toNat_of_nonneg s0]at this; exact this
theorem y5l {K s:Int} {V:Int→Int→Int} {a:dA} (h:Lv K V a) (s0:0≤s) (s1:s<a.2.1.2) (hl:ybx a s<2): ∃j,0≤j∧ ∀i,0≤i→i<a.2.1.1→i≠j→i≠a.2.2.2.1∧yG a i=false∧yK a i (s+6)=false:=by
 have hlr:=h.x.xc.2.2.2.1
 have nf: ∀i,0≤i→i<a.2.1.1→i≠a.2.2.2.1→yG a i=false:=fun i i0 i1 hi=>by
  cases hf:yG a i
  ·rfl
  ·exact absurd (y3a h.x i0 i1 hf) hi
 have has: ∀i,yad a s i=true→yK a i (s+6)=false:=fun i hh=>by
  unfold yad at hh;rw[Bool.and_eq_true,Bool.not_eq_true']at hh;exact hh.2
 by_cases hm:a.2.2.2.1= -1
 ·by_cases hz:ybx a s=0
  ·refine⟨0,by omega,fun i i0 i1 _=>⟨by omega,nf i i0 i1 (by omega),has i ?_⟩⟩
   have:decide (ybx a s=0)=true:=decide_eq_true hz;unfold ybx at this;rw[yoU,List.all_eq_true]at this;have:=this i.toNat (List.mem_range.2 (by omega));rw[Int.toNat_of_nonneg i0]at this; exact this
  ·have hx: ∃j,j<a.2.1.1.toNat∧yad a s (j:Nat)=false:=Classical.byContradiction fun hn=>by
    apply hz
    have:decide (ybx a s=0)=true:=by
     unfold ybx;rw[yoU,List.all_eq_true];intro i hi;cases hb:yad a s (i:Nat)
     ·exact absurd ⟨i,List.mem_range.1 hi,hb⟩ hn
     ·rfl
    exact of_decide_eq_true this
   obtain⟨j,hj,hb⟩:=hx;refine⟨j,by omega,fun i i0 i1 hi=>⟨by omega,nf i i0 i1 (by omega),has i ?_⟩⟩;have:=yFN (p:=fun(i:Nat)=>yad a s i) (n:=a.2.1.1.toNat) (j:=j) hl hj hb i.toNat (by omega) (by omega);have this:yad a s ((i.toNat:Nat):Int)=true:=this;rw[Int.toNat_of_nonneg i0]at this; exact this
 ·refine⟨a.2.2.2.1,by omega,fun i i0 i1 hi=>⟨hi,nf i i0 i1 hi,?_⟩⟩
  by_cases hs:s<a.2.2.2.2.1
  ·exact h.n.n hm i s i0 i1 hi s0 hs
  ·have hb:(fun(i:Nat)=>yad a s i) a.2.2.2.1.toNat=false:=by
    show yad a s ((a.2.2.2.1.toNat:Nat):Int)=false;rw[Int.toNat_of_nonneg (by omega)];unfold yad yaf;rw[bne_self_eq_false,zk1 (show a.2.2.2.2.1≤s by omega),Bool.or_self,Bool.and_false]; rfl
   have:=yFN (p:=fun(i:Nat)=>yad a s i) (n:=a.2.1.1.toNat) (j:=a.2.2.2.1.toNat) hl (by omega) hb i.toNat (by omega) (by omega);have this:yad a s ((i.toNat:Nat):Int)=true:=this;rw[Int.toNat_of_nonneg i0]at this; exact has i this
theorem y5n {x:dA} {i s:Int} (hl:i≠x.2.2.2.1) (hf:yG x i=false) (hb:yK x i (s+6)=false):yad x s i=true:=by
 unfold yad yaf;rw[show(yj x i).2.2.1=false from hf,show yaZ (yj x i) (s+6)=false from hb,show(i !=x.2.2.2.1)=true from bne_iff_ne.2 hl]; rfl
theorem yYr {K id:Int} {g:dG} {V:Int→Int→Int} {Lf:Int} {l:List dM} {x:dA} (h:Back K id g V Lf l x) (hw: ∀s,0≤s→s<g.2→ ∃j,0≤j∧ ∀i,0≤i→i<g.1→i≠j→i≠Lf∧flF l i=false∧bdF l i (s+6)=false):y2T x:=fun s s0 s1=>by
 rw[h.bg]at s1;obtain⟨j,j0,hj⟩:=hw s s0 s1;refine y46 j0 fun i i0 i1 hi=> ?_
 rw[h.bg]at i1;obtain⟨h1,h2,h3⟩:=hj i i0 i1 hi;refine y5n (by rw[h.bl]; exact h1) ((h.bf i i0 i1).trans h2) ?_;cases hb:yK x i (s+6)
 ·rfl
 ·rw[h.be i (s+6) i0 i1 (by omega) hb]at h3; cases h3
end
def yZn:Code:=(f207.body).getD .skip
def yZU:Env:=zku TT [(162,yG5)] []
theorem yPB:FrOk prog ⟨yZU,18,fun _=>none⟩ yZn:=zky yf yg ⟨y0B,trivial⟩
abbrev yqW:List Par:= [.rd tN]
abbrev yzP:List OT:= [⟨false,tL,(.ow .fz)⟩]
def yu5 (a0:dN):Option (zaY yzP×zak yqW) :=let r1:=yW a0;bif(!r1)then some ((([]:List Int),()),()) else bif(zkj ([21322,a0.1,a0.2.1,(a0.2.2.length:Int)]:List Int).length a0.2.2.length 8)then some (((([21322,a0.1,a0.2.1,(a0.2.2.length:Int)]:List Int)++a0.2.2),()),()) else none
theorem yUS:ConOk prog 207 ⟨yqW,yzP,fun x=>yu5 x.1⟩:=zkG (yPB) func207 ntmps207.symm fun x=>by kernel_rfl
def ylE (a0:dN):List Int:=yac a0
theorem yXi (a0:dN) (hk:zjw yqW (a0,())):yu5 a0=(fun n=>some ((n,()),())) (ylE a0):=by
 unfold yu5 ylE yac;cases hr:yW a0
 ·rfl
 ·have:=(ysD.1 hr).2.2.1
  rw[zkD.2 (show(([21322,a0.1,a0.2.1,(a0.2.2.length:Int)]:List Int).length+a0.2.2.length)*8≤140737488355328 by simp only[List.length_cons,List.length_nil]; omega)]; rfl
def yFs:Con:=⟨yqW,yzP,fun x=>(fun n=>some ((n,()),())) (ylE x.1)⟩
theorem yX3:ConOk prog 207 yFs:=(yUS).mono (fun x r hk h=>(yXi x.1 hk).trans h)
def ysQ:Code:=(f169.body).getD .skip
def yCs:Env:=zku TT [(91,yFt),(206,yj4),(207,yFs),(208,ym0)] []
theorem yTG:FrOk prog ⟨yCs,24,fun _=>none⟩ ysQ:=zky yf yg ⟨yX4,yrc,yX3,yw4,trivial⟩
def yGQ:Nat→Option Seg:=fun _=>none
def ydw:Shape:=⟨[(0,false,[.ptr 1000000000 0]),(3,false,[.ptr 0 0]),(4,false,[.int .i64])],[(0,[.int .i64,.int .i64,.br tI]),(1000000000,[.int .i64,.int .i64,.int .i64,.at 800000000,.int .i64,.int .i64,.int .i64,.int .i64,.int .i64,.at 800000001,.int .i64,.bool,.bool])],[(800000000,tM,(.pr (.ow .fz) (.pr (.ow (.pr .fz .fz)) (.pr .fz (.ow .fz))))),(800000001,tW,(.pr .fz .fz))]⟩
def yit:Shape:=⟨[(0,false,[.ptr 1000000000 0]),(3,false,[.ptr 0 0]),(4,false,[.ci .i64 0])],[(0,[.int .i64,.int .i64,.br tI]),(1000000000,[.int .i64,.int .i64,.int .i64,.at 800000000,.int .i64,.int .i64,.int .i64,.int .i64,.int .i64,.at 800000001,.int .i64,.bool,.bool])],[(800000000,tM,(.pr (.ow .fz) (.pr (.ow (.pr .fz .fz)) (.pr .fz (.ow .fz))))),(800000001,tW,(.pr .fz .fz))]⟩
def yif:Shape:=⟨[(0,false,[.ptr 1000000000 0])],[(1000000000,[.int .i64,.int .i64,.int .i64,.at 800000000,.int .i64,.int .i64,.int .i64,.int .i64,.int .i64,.at 800000001,.int .i64,.bool,.bool])],[(800000000,tM,(.pr (.ow .fz) (.pr (.ow (.pr .fz .fz)) (.pr .fz (.ow .fz))))),(800000001,tW,(.pr .fz .fz))]⟩
def ymQ:Shape:=⟨[],[],[]⟩
abbrev yrO (v0:Int) (v1:dN) (v2:dA):(ydw).X:=((((),()),((),()),(v0,()),()),((v1.1,v1.2.1,v1.2.2,()),(v2.1,v2.2.1.1,v2.2.1.2,(),v2.2.2.2.1,v2.2.2.2.2.1,v2.2.2.2.2.2.1,v2.2.2.2.2.2.2.1,v2.2.2.2.2.2.2.2.1,(),v2.2.2.2.2.2.2.2.2.2.1,v2.2.2.2.2.2.2.2.2.2.2.1,v2.2.2.2.2.2.2.2.2.2.2.2,()),()),(v2.2.2.1,v2.2.2.2.2.2.2.2.2.1,()))
abbrev yQn (v0:dN) (v1:dA):(yit).X:=((((),()),((),()),((),()),()),((v0.1,v0.2.1,v0.2.2,()),(v1.1,v1.2.1.1,v1.2.1.2,(),v1.2.2.2.1,v1.2.2.2.2.1,v1.2.2.2.2.2.1,v1.2.2.2.2.2.2.1,v1.2.2.2.2.2.2.2.1,(),v1.2.2.2.2.2.2.2.2.2.1,v1.2.2.2.2.2.2.2.2.2.2.1,v1.2.2.2.2.2.2.2.2.2.2.2,()),()),(v1.2.2.1,v1.2.2.2.2.2.2.2.2.1,()))
abbrev yD9 (v0:dA):(yif).X:=((((),()),()),((v0.1,v0.2.1.1,v0.2.1.2,(),v0.2.2.2.1,v0.2.2.2.2.1,v0.2.2.2.2.2.1,v0.2.2.2.2.2.2.1,v0.2.2.2.2.2.2.2.1,(),v0.2.2.2.2.2.2.2.2.2.1,v0.2.2.2.2.2.2.2.2.2.2.1,v0.2.2.2.2.2.2.2.2.2.2.2,()),()),(v0.2.2.1,v0.2.2.2.2.2.2.2.2.1,()))
def ysn (v0 v1 v2:Int) (v3:List Int) (v4 v5 v6 v7 v8 v9 v10 v11 v12:Int) (v13 v14:Bool) (v15:List dM) (v16:List dW):Option ((ydw).X ⊕ ((yif).X ⊕ (ymQ).X)) :=bif(ltb v0 (v15.length:Int))then let r4:=yh v1;let r5:=ylE (v1,v2,v3);bnd (yfh (v4,(v5,v6),v15,v7,v8,v9,v10,v11,v16,v12,v13,v14) v0 r4 r5) fun r6 =>some (.inl ((((),()),((),()),((i64.wrap (v0+1)),()),()),((v1,v2,v3,()),(r6.2.1.1,r6.2.1.2.1.1,r6.2.1.2.1.2,(),r6.2.1.2.2.2.1,r6.2.1.2.2.2.2.1,r6.2.1.2.2.2.2.2.1,r6.2.1.2.2.2.2.2.2.1,r6.2.1.2.2.2.2.2.2.2.1,(),r6.2.1.2.2.2.2.2.2.2.2.2.1,r6.2.1.2.2.2.2.2.2.2.2.2.2.1,r6.2.1.2.2.2.2.2.2.2.2.2.2.2,()),()),(r6.2.1.2.2.1,r6.2.1.2.2.2.2.2.2.2.2.1,()))) else some (.inr (.inl ((((),()),()),((v4,v5,v6,(),v7,v8,v9,v10,v11,(),v12,v13,v14,()),()),(v15,v16,()))))
def yd4 (x:(ydw).X):=ysn x.1.2.2.1.1 x.2.1.1.1 x.2.1.1.2.1 x.2.1.1.2.2.1 x.2.1.2.1.1 x.2.1.2.1.2.1 x.2.1.2.1.2.2.1 x.2.1.2.1.2.2.2.2.1 x.2.1.2.1.2.2.2.2.2.1 x.2.1.2.1.2.2.2.2.2.2.1 x.2.1.2.1.2.2.2.2.2.2.2.1 x.2.1.2.1.2.2.2.2.2.2.2.2.1 x.2.1.2.1.2.2.2.2.2.2.2.2.2.2.1 x.2.1.2.1.2.2.2.2.2.2.2.2.2.2.2.1 x.2.1.2.1.2.2.2.2.2.2.2.2.2.2.2.2.1 x.2.2.1 x.2.2.2.1
def yDJ (x:(yit).X):(ydw).X:=((((),()),((),()),(0,()),()),((x.2.1.1.1,x.2.1.1.2.1,x.2.1.1.2.2.1,()),(x.2.1.2.1.1,x.2.1.2.1.2.1,x.2.1.2.1.2.2.1,(),x.2.1.2.1.2.2.2.2.1,x.2.1.2.1.2.2.2.2.2.1,x.2.1.2.1.2.2.2.2.2.2.1,x.2.1.2.1.2.2.2.2.2.2.2.1,x.2.1.2.1.2.2.2.2.2.2.2.2.1,(),x.2.1.2.1.2.2.2.2.2.2.2.2.2.2.1,x.2.1.2.1.2.2.2.2.2.2.2.2.2.2.2.1,x.2.1.2.1.2.2.2.2.2.2.2.2.2.2.2.2.1,()),()),(x.2.2.1,x.2.2.2.1,()))
def yFg:Code:=(zeJ ysQ 64 52).getD .skip
theorem ySZ:zeJ ysQ 64 13=some (.block 0 (.loop yFg)):=by kernel_rfl
theorem yVK (x:(ydw).X):zhu ⟨yCs,24,yGQ⟩ 0 yFg 52 ydw yif ymQ x=yd4 x:=by kernel_rfl
def yDZ (x:(yit).X):Nat:=18446744073709551616
def yth (x:(yit).X):Option ((yif).X ⊕ (ymQ).X):=zF yd4 (yDZ x) (yDJ x)
def yEG:Seg:=⟨yit,yif,ymQ,yth⟩
def yWi:Nat→Option Seg:=fun q=>bif Nat.beq q 13 then some yEG else yGQ q
theorem yTH:FrOk prog ⟨yCs,24,yWi⟩ ysQ:=(yTG).loop (sg:=yEG) ydw yDJ (by decide) ySZ yd4 yDZ (by decide) (fun _=>rfl) (fun x r _ h=>h) yVK
abbrev ytA:List Par:= [.pt tA (.pr .fz (.pr (.pr .fz .fz) (.pr (.ow (.pr (.ow .fz) (.pr (.ow (.pr .fz .fz)) (.pr .fz (.ow .fz))))) (.pr .fz (.pr .fz (.pr .fz (.pr .fz (.pr .fz (.pr (.ow (.pr .fz .fz)) (.pr .fz (.pr .fz .fz))))))))))),.rd tN]
abbrev yCW:List OT:= []
def yxk (a0:dA) (a1:dN):Option (zaY yCW×zak ytA) :=zkr (yth ((((),()),((),()),((),()),()),((a1.1,a1.2.1,a1.2.2,()),(a0.1,a0.2.1.1,a0.2.1.2,(),a0.2.2.2.1,a0.2.2.2.2.1,a0.2.2.2.2.2.1,a0.2.2.2.2.2.2.1,a0.2.2.2.2.2.2.2.1,(),a0.2.2.2.2.2.2.2.2.2.1,a0.2.2.2.2.2.2.2.2.2.2.1,a0.2.2.2.2.2.2.2.2.2.2.2,()),()),(a0.2.2.1,a0.2.2.2.2.2.2.2.2.1,()))) (fun y6 =>let r8:=yeb (y6.2.1.1.1,(y6.2.1.1.2.1,y6.2.1.1.2.2.1),y6.2.2.1,y6.2.1.1.2.2.2.2.1,y6.2.1.1.2.2.2.2.2.1,y6.2.1.1.2.2.2.2.2.2.1,y6.2.1.1.2.2.2.2.2.2.2.1,y6.2.1.1.2.2.2.2.2.2.2.2.1,y6.2.2.2.1,y6.2.1.1.2.2.2.2.2.2.2.2.2.2.1,y6.2.1.1.2.2.2.2.2.2.2.2.2.2.2.1,y6.2.1.1.2.2.2.2.2.2.2.2.2.2.2.2.1);some ((),(r8,()))) (fun y6 =>none)
theorem yXP:ConOk prog 169 ⟨ytA,yCW,fun x=>yxk x.1 x.2.1⟩:=zkG (yTH) func169 ntmps169.symm fun x=>by kernel_rfl
def yki (a0:dA) (a1:dN):dA:=yo a0 a1
theorem y0p (a0:dA) (a1:dN) (hk:zjw ytA (a0,a1,())):yxk a0 a1=(fun n=>some ((),(n,()))) (yki a0 a1):=by
 have hb:a0.2.2.1.length*80≤2^47:=hk.1.2.2.1.1
 have h1:yth (yQn a1 a0)=some (.inl (yD9 ((List.range a0.2.2.1.length).foldl (ya8 a1) a0))) :=
  zkB (step:=yd4) a0.2.2.1.length (fun i s=>yrO i a1 s) (ya8 a1) (fun _ s=>s.2.2.1.length=a0.2.2.1.length) (fun s=> .inl (yD9 s)) (fun i s hi hs=>⟨by
   simp only[yd4,yrO,ysn,hs,zkw (show(i:Int)<a0.2.2.1.length by omega),cond_true,wq ((i:Int)+1) (by omega) (by omega),Int.natCast_add,Int.natCast_one,Int.toNat_natCast,zkV,ylE];rw[ylL s i (yh a1.1) (yac a1) (zkP (by rw[hs]; exact hi))]
   rfl,(ylb a1 s i).trans hs⟩) (fun s hs=>by simp only[yd4,yrO,ysn,hs,zk1 (Int.le_refl _),cond_false]) a0 rfl _ (by show _<18446744073709551616; omega)
 unfold yxk yki yo;exact(congrArg (fun z=>zkr z _ _) h1).trans rfl
def yG8:Con:=⟨ytA,yCW,fun x=>(fun n=>some ((),(n,()))) (yki x.1 x.2.1)⟩
theorem y0E:ConOk prog 169 yG8:=(yXP).mono (fun x r hk h=>(y0p x.1 x.2.1 hk).trans h)
def ysN:Code:=(f230.body).getD .skip
def yCp:Env:=zku TT [] []
theorem yTx:FrOk prog ⟨yCp,18,fun _=>none⟩ ysN:=zky yf yg trivial
def yGN:Nat→Option Seg:=fun _=>none
def ydt:Shape:=⟨[(0,false,[.br tI]),(3,false,[.int .i64]),(4,false,[.int .i64])],[],[]⟩
def yiq:Shape:=⟨[(0,false,[.br tI]),(3,false,[.ci .i64 0]),(4,false,[.ci .i64 0])],[],[]⟩
def yic:Shape:=⟨[(3,false,[.int .i64])],[],[]⟩
def ymN:Shape:=⟨[],[],[]⟩
abbrev yrL (v0:List Int) (v1 v2:Int):(ydt).X:=(((v0,()),(v1,()),(v2,()),()),(),())
abbrev yQk (v0:List Int):(yiq).X:=(((v0,()),((),()),((),()),()),(),())
abbrev yD7 (v0:Int):(yic).X:=(((v0,()),()),(),())
def ysk (v0:List Int) (v1 v2:Int):Option ((ydt).X ⊕ ((yic).X ⊕ (ymN).X)) :=bif(ltb v2 (v0.length:Int))then bif(inb v2 v0.length)then some (.inl (((v0,()),((i64.wrap ((BitVec.ofInt IntKind.i64.bits v1 ^^^ BitVec.ofInt IntKind.i64.bits (nth v0 v2 0)).toNat:Int)),()),((i64.wrap (v2+1)),()),()),(),())) else none else some (.inr (.inl (((v1,()),()),(),())))
def yd1 (x:(ydt).X):=ysk x.1.1.1 x.1.2.1.1 x.1.2.2.1.1
def yDF (x:(yiq).X):(ydt).X:=(((x.1.1.1,()),(0,()),(0,()),()),(),())
def yFc:Code:=(zeJ ysN 64 116).getD .skip
theorem ySV:zeJ ysN 64 29=some (.block 0 (.loop yFc)):=by kernel_rfl
theorem yVG (x:(ydt).X):zhu ⟨yCp,18,yGN⟩ 0 yFc 116 ydt yic ymN x=yd1 x:=by kernel_rfl
def yDV (x:(yiq).X):Nat:=18446744073709551616
def ytd (x:(yiq).X):Option ((yic).X ⊕ (ymN).X):=zF yd1 (yDV x) (yDF x)
def yEC:Seg:=⟨yiq,yic,ymN,ytd⟩
def yWf:Nat→Option Seg:=fun q=>bif Nat.beq q 29 then some yEC else yGN q
theorem yTy:FrOk prog ⟨yCp,18,yWf⟩ ysN:=(yTx).loop (sg:=yEC) ydt yDF (by decide) ySV yd1 yDV (by decide) (fun _=>rfl) (fun x r _ h=>h) yVG
abbrev ytw:List Par:= [.rd tL]
abbrev yCR:List OT:= [⟨false,tI,.fz⟩]
def yxh (a0:List Int):Option (zaY yCR×zak ytw) :=zkr (ytd (((a0,()),((),()),((),()),()),(),())) (fun y0 =>some ((y0.1.1.1,()),())) (fun y0 =>none)
theorem yXJ:ConOk prog 230 ⟨ytw,yCR,fun x=>yxh x.1⟩:=zkG (yTy) func230 ntmps230.symm fun x=>by kernel_rfl
def ykg (a0:List Int):Int:=yay a0
theorem y0l (a0:List Int) (hk:zjw ytw (a0,())):yxh a0=(fun n=>some ((n,()),())) (ykg a0):=by
 have hb:a0.length*8≤2^47:=hk.1.1
 have h1:ytd (yQk a0)=some (.inl (yD7 (yay a0))) :=
  zkv (step:=yd1) a0 0 (fun i s=>yrL a0 s i) xw (fun _ _=>True) (fun s=> .inl (yD7 s)) (fun i s hi _=>⟨by
   simp only[yd1,yrL,ysk,zkw (show(i:Int)<a0.length by omega),cond_true,wq ((i:Int)+1) (by omega) (by omega),Int.natCast_add,Int.natCast_one,Int.toNat_natCast,zkP hi,zkQ]; rfl,trivial⟩) (fun s _=>by simp only[yd1,yrL,ysk,zk1 (Int.le_refl _),cond_false]) 0 trivial _ (by show _<18446744073709551616; omega)
 unfold yxh ykg;rw[h1]; rfl
def yG6:Con:=⟨ytw,yCR,fun x=>(fun n=>some ((n,()),())) (ykg x.1)⟩
theorem y0C:ConOk prog 230 yG6:=(yXJ).mono (fun x r hk h=>(y0l x.1 hk).trans h)
def yL0:Code:=(f210.body).getD .skip
def yMc:Env:=zku TT [(230,yG6)] []
theorem yH5:FrOk prog ⟨yMc,5,fun _=>none⟩ yL0:=zky yf yg ⟨y0C,trivial⟩
abbrev ypt:List Par:= [.rd tL]
abbrev ypw:List OT:= [⟨false,tI,.fz⟩]
def yvT (a0:List Int):Option (zaY ypw×zak ypt) :=let r1:=ykg a0;some ((r1,()),())
theorem yJq:ConOk prog 210 ⟨ypt,ypw,fun x=>yvT x.1⟩:=zkG (yH5) func210 ntmps210.symm fun x=>by kernel_rfl
def yjD (a0:List Int):Int :=let r1:=ykg a0;r1
def yvw:Con:=⟨ypt,ypw,fun x=>(fun n=>some ((n,()),())) (yjD x.1)⟩
theorem yLa (a0:List Int):yvT a0=(fun n=>some ((n,()),())) (yjD a0):=zkT (p:=fun(n:Int)=>((n,()),())) rfl
theorem yLj:ConOk prog 210 yvw:=(yJq).mono (fun x r _ h=>(yLa x.1).trans h)
def yqJ:Code:=(f170.body).getD .skip
def yy5:Env:=zku TT [(113,yfs),(206,yj4),(209,ypA),(210,yvw),(211,yug)] []
theorem yPV:FrOk prog ⟨yy5,61,fun _=>none⟩ yqJ:=zky yf yg ⟨yko,yrc,yEi,yLj,yHv,trivial⟩
def yEY:Nat→Option Seg:=fun _=>none
def ydv:Shape:=⟨[(0,false,[.ptr 1000000000 0]),(1,false,[.int .i64]),(2,false,[.br tI]),(6,false,[.int .i64]),(7,false,[.int .i64])],[(1000000000,[.int .i64,.int .i64,.int .i64,.at 800000000,.int .i64,.int .i64,.int .i64,.int .i64,.int .i64,.at 800000001,.int .i64,.bool,.bool])],[(800000000,tM,(.pr (.ow .fz) (.pr (.ow (.pr .fz .fz)) (.pr .fz (.ow .fz))))),(800000001,tW,(.pr .fz .fz))]⟩
def yis:Shape:=⟨[(0,false,[.ptr 1000000000 0]),(1,false,[.int .i64]),(2,false,[.br tI]),(6,false,[.int .i64]),(7,false,[.ci .i64 0])],[(1000000000,[.int .i64,.int .i64,.int .i64,.at 800000000,.int .i64,.int .i64,.int .i64,.int .i64,.int .i64,.at 800000001,.int .i64,.bool,.bool])],[(800000000,tM,(.pr (.ow .fz) (.pr (.ow (.pr .fz .fz)) (.pr .fz (.ow .fz))))),(800000001,tW,(.pr .fz .fz))]⟩
def yie:Shape:=⟨[],[(1000000000,[.int .i64,.int .i64,.int .i64,.at 800000000,.int .i64,.int .i64,.int .i64,.int .i64,.int .i64,.at 800000001,.int .i64,.bool,.bool])],[(800000000,tM,(.pr (.ow .fz) (.pr (.ow (.pr .fz .fz)) (.pr .fz (.ow .fz))))),(800000001,tW,(.pr .fz .fz))]⟩
def ymP:Shape:=⟨[],[],[]⟩
abbrev yrN (v0:Int) (v1:List Int) (v2 v3:Int) (v4:dA):(ydv).X:=((((),()),(v0,()),(v1,()),(v2,()),(v3,()),()),((v4.1,v4.2.1.1,v4.2.1.2,(),v4.2.2.2.1,v4.2.2.2.2.1,v4.2.2.2.2.2.1,v4.2.2.2.2.2.2.1,v4.2.2.2.2.2.2.2.1,(),v4.2.2.2.2.2.2.2.2.2.1,v4.2.2.2.2.2.2.2.2.2.2.1,v4.2.2.2.2.2.2.2.2.2.2.2,()),()),(v4.2.2.1,v4.2.2.2.2.2.2.2.2.1,()))
abbrev yQm (v0:Int) (v1:List Int) (v2:Int) (v3:dA):(yis).X:=((((),()),(v0,()),(v1,()),(v2,()),((),()),()),((v3.1,v3.2.1.1,v3.2.1.2,(),v3.2.2.2.1,v3.2.2.2.2.1,v3.2.2.2.2.2.1,v3.2.2.2.2.2.2.1,v3.2.2.2.2.2.2.2.1,(),v3.2.2.2.2.2.2.2.2.2.1,v3.2.2.2.2.2.2.2.2.2.2.1,v3.2.2.2.2.2.2.2.2.2.2.2,()),()),(v3.2.2.1,v3.2.2.2.2.2.2.2.2.1,()))
abbrev yD8 (v0:dA):(yie).X:=((),((v0.1,v0.2.1.1,v0.2.1.2,(),v0.2.2.2.1,v0.2.2.2.2.1,v0.2.2.2.2.2.1,v0.2.2.2.2.2.2.1,v0.2.2.2.2.2.2.2.1,(),v0.2.2.2.2.2.2.2.2.2.1,v0.2.2.2.2.2.2.2.2.2.2.1,v0.2.2.2.2.2.2.2.2.2.2.2,()),()),(v0.2.2.1,v0.2.2.2.2.2.2.2.2.1,()))
def ysm (v0:Int) (v1:List Int) (v2 v3 v4 v5 v6 v7 v8 v9 v10 v11 v12:Int) (v13 v14:Bool) (v15:List dM) (v16:List dW):Option ((ydv).X ⊕ ((yie).X ⊕ (ymP).X)) :=bif(ltb v3 (v15.length:Int))then let r9:=yjD v1;bif(v3 !=v2)then bif(v5 !=0)then bif(inb ((i64.wrap ((i64.wrap ((i64.wrap (v3-v2))-1))+v5)).tmod v5) v1.length)then let r10:=yd9 (v4,(v5,v6),v15,v7,v8,v9,v10,v11,v16,v12,v13,v14) v3 v0;bif r10 then let r11:=ybK v0;bnd (yfh (v4,(v5,v6),v15,v7,v8,v9,v10,v11,v16,v12,v13,v14) v3 r11 ([(nth v1 ((i64.wrap ((i64.wrap ((i64.wrap (v3-v2))-1))+v5)).tmod v5) 0)]:List Int)) fun r12 =>some (.inl ((((),()),(v0,()),(v1,()),(v2,()),((i64.wrap (v3+1)),()),()),((r12.2.1.1,r12.2.1.2.1.1,r12.2.1.2.1.2,(),r12.2.1.2.2.2.1,r12.2.1.2.2.2.2.1,r12.2.1.2.2.2.2.2.1,r12.2.1.2.2.2.2.2.2.1,r12.2.1.2.2.2.2.2.2.2.1,(),r12.2.1.2.2.2.2.2.2.2.2.2.1,r12.2.1.2.2.2.2.2.2.2.2.2.2.1,r12.2.1.2.2.2.2.2.2.2.2.2.2.2,()),()),(r12.2.1.2.2.1,r12.2.1.2.2.2.2.2.2.2.2.1,()))) else some (.inl ((((),()),(v0,()),(v1,()),(v2,()),((i64.wrap (v3+1)),()),()),((v4,v5,v6,(),v7,v8,v9,v10,v11,(),v12,v13,v14,()),()),(v15,v16,()))) else none else none else let r13:=yd9 (v4,(v5,v6),v15,v7,v8,v9,v10,v11,v16,v12,v13,v14) v3 v0;bif r13 then let r14:=ybK v0;bnd (yfh (v4,(v5,v6),v15,v7,v8,v9,v10,v11,v16,v12,v13,v14) v3 r14 ([r9]:List Int)) fun r15 =>some (.inl ((((),()),(v0,()),(v1,()),(v2,()),((i64.wrap (v3+1)),()),()),((r15.2.1.1,r15.2.1.2.1.1,r15.2.1.2.1.2,(),r15.2.1.2.2.2.1,r15.2.1.2.2.2.2.1,r15.2.1.2.2.2.2.2.1,r15.2.1.2.2.2.2.2.2.1,r15.2.1.2.2.2.2.2.2.2.1,(),r15.2.1.2.2.2.2.2.2.2.2.2.1,r15.2.1.2.2.2.2.2.2.2.2.2.2.1,r15.2.1.2.2.2.2.2.2.2.2.2.2.2,()),()),(r15.2.1.2.2.1,r15.2.1.2.2.2.2.2.2.2.2.1,()))) else some (.inl ((((),()),(v0,()),(v1,()),(v2,()),((i64.wrap (v3+1)),()),()),((v4,v5,v6,(),v7,v8,v9,v10,v11,(),v12,v13,v14,()),()),(v15,v16,()))) else some (.inr (.inl ((),((v4,v5,v6,(),v7,v8,v9,v10,v11,(),v12,v13,v14,()),()),(v15,v16,()))))
def yd3 (x:(ydv).X):=ysm x.1.2.1.1 x.1.2.2.1.1 x.1.2.2.2.1.1 x.1.2.2.2.2.1.1 x.2.1.1.1 x.2.1.1.2.1 x.2.1.1.2.2.1 x.2.1.1.2.2.2.2.1 x.2.1.1.2.2.2.2.2.1 x.2.1.1.2.2.2.2.2.2.1 x.2.1.1.2.2.2.2.2.2.2.1 x.2.1.1.2.2.2.2.2.2.2.2.1 x.2.1.1.2.2.2.2.2.2.2.2.2.2.1 x.2.1.1.2.2.2.2.2.2.2.2.2.2.2.1 x.2.1.1.2.2.2.2.2.2.2.2.2.2.2.2.1 x.2.2.1 x.2.2.2.1
def yDI (x:(yis).X):(ydv).X:=((((),()),(x.1.2.1.1,()),(x.1.2.2.1.1,()),(x.1.2.2.2.1.1,()),(0,()),()),((x.2.1.1.1,x.2.1.1.2.1,x.2.1.1.2.2.1,(),x.2.1.1.2.2.2.2.1,x.2.1.1.2.2.2.2.2.1,x.2.1.1.2.2.2.2.2.2.1,x.2.1.1.2.2.2.2.2.2.2.1,x.2.1.1.2.2.2.2.2.2.2.2.1,(),x.2.1.1.2.2.2.2.2.2.2.2.2.2.1,x.2.1.1.2.2.2.2.2.2.2.2.2.2.2.1,x.2.1.1.2.2.2.2.2.2.2.2.2.2.2.2.1,()),()),(x.2.2.1,x.2.2.2.1,()))
def yFf:Code:=(zeJ yqJ 64 28).getD .skip
theorem ySY:zeJ yqJ 64 7=some (.block 0 (.loop yFf)):=by kernel_rfl
theorem yVJ (x:(ydv).X):zhu ⟨yy5,61,yEY⟩ 0 yFf 28 ydv yie ymP x=yd3 x:=by kernel_rfl
def yDY (x:(yis).X):Nat:=18446744073709551616
def ytg (x:(yis).X):Option ((yie).X ⊕ (ymP).X):=zF yd3 (yDY x) (yDI x)
def yEF:Seg:=⟨yis,yie,ymP,ytg⟩
def ySs:Nat→Option Seg:=fun q=>bif Nat.beq q 7 then some yEF else yEY q
theorem yPW:FrOk prog ⟨yy5,61,ySs⟩ yqJ:=(yPV).loop (sg:=yEF) ydv yDI (by decide) ySY yd3 yDY (by decide) (fun _=>rfl) (fun x r _ h=>h) yVJ
abbrev ylp:List Par:= [.pt tA (.pr .fz (.pr (.pr .fz .fz) (.pr (.ow (.pr (.ow .fz) (.pr (.ow (.pr .fz .fz)) (.pr .fz (.ow .fz))))) (.pr .fz (.pr .fz (.pr .fz (.pr .fz (.pr .fz (.pr (.ow (.pr .fz .fz)) (.pr .fz (.pr .fz .fz))))))))))),.rd tI,.rd tL]
abbrev yq5:List OT:= []
def yva (a0:dA) (a1:Int) (a2:List Int):Option (zaY yq5×zak ylp) :=let r1:=ydK a0.2.1 a1;zkr (ytg ((((),()),(a1,()),(a2,()),(r1,()),((),()),()),((a0.1,a0.2.1.1,a0.2.1.2,(),a0.2.2.2.1,a0.2.2.2.2.1,a0.2.2.2.2.2.1,a0.2.2.2.2.2.2.1,a0.2.2.2.2.2.2.2.1,(),a0.2.2.2.2.2.2.2.2.2.1,a0.2.2.2.2.2.2.2.2.2.2.1,a0.2.2.2.2.2.2.2.2.2.2.2,()),()),(a0.2.2.1,a0.2.2.2.2.2.2.2.2.1,()))) (fun y15 =>some ((),((y15.2.1.1.1,(y15.2.1.1.2.1,y15.2.1.1.2.2.1),y15.2.2.1,y15.2.1.1.2.2.2.2.1,y15.2.1.1.2.2.2.2.2.1,y15.2.1.1.2.2.2.2.2.2.1,y15.2.1.1.2.2.2.2.2.2.2.1,y15.2.1.1.2.2.2.2.2.2.2.2.1,y15.2.2.2.1,y15.2.1.1.2.2.2.2.2.2.2.2.2.2.1,y15.2.1.1.2.2.2.2.2.2.2.2.2.2.2.1,y15.2.1.1.2.2.2.2.2.2.2.2.2.2.2.2.1),()))) (fun y15 =>none)
theorem yU7:ConOk prog 170 ⟨ylp,yq5,fun x=>yva x.1 x.2.1 x.2.2.1⟩:=zkG (yPW) func170 ntmps170.symm fun x=>by kernel_rfl
def yq9 (a0:dA) (a1:Int) (a2:List Int):dA:=yB a0 a1 a2
def ylM (a0:dA) (a1:Int) (a2:List Int):Bool:=yL a0.2.1 a1&&((a2.length:Int)==a0.2.1.1-1&&(a0.2.2.1.length:Int)==a0.2.1.1)
theorem yXs (a0:dA) (a1:Int) (a2:List Int) (hk:zjw ylp (a0,a1,a2,())) (hq:ylM a0 a1 a2=true):yva a0 a1 a2=(fun n=>some ((),(n,()))) (yq9 a0 a1 a2):=by
 simp only[ylM,Bool.and_eq_true,beq_iff_eq]at hq;have hg:=yl.1 (yV.1 hq.1).1;have hp:=yi5 hq.1
 have h1:ytg (yQm a1 a2 (yk a0.2.1 a1) a0)=some (.inl (yD8 (yB a0 a1 a2))) :=
  zkB (step:=yd3) a0.2.2.1.length (fun i s=>yrN a1 a2 (yk a0.2.1 a1) i s) (ya9 (yk a0.2.1 a1) a0.2.1.1 a1 a2) (fun _ s=>s.2.2.1.length=a0.2.2.1.length∧s.2.1=a0.2.1) (fun s=> .inl (yD8 s)) (fun i s hi hs=>⟨by
   have hN:s.2.1.1=a0.2.1.1:=by rw[hs.2]
   simp only[yd3,yrN,ysm,hs.1,zkw (show(i:Int)<a0.2.2.1.length by omega),cond_true,wq ((i:Int)+1) (by omega) (by omega),Int.natCast_add,Int.natCast_one,Int.toNat_natCast,zkV,ykg,yjD,yd9,ygH,ya9,ycd];rw[← hN];by_cases he:(i:Int)=yk a0.2.1 a1
   ·rw[show((i:Int) !=yk a0.2.1 a1)=false by simp[he],show((i:Int)==yk a0.2.1 a1)=true from beq_iff_eq.2 he]
    rw[ylL s i (yA a1) [yay a2] (zkP (by rw[hs.1]; exact hi))];cases ycC s i a1<;>rfl
   ·have hd:=y5S (N:=s.2.1.1) (i:=i) (p:=yk a0.2.1 a1) ⟨by omega,by omega⟩ ⟨by omega,by omega⟩ ⟨hp.1,by omega⟩ he
    rw[show((i:Int) !=yk a0.2.1 a1)=true from bne_iff_ne.2 he,show((i:Int)==yk a0.2.1 a1)=false from beq_eq_false_iff_ne.2 he,show(s.2.1.1 !=0)=true from bne_iff_ne.2 (by omega),
     wq ((i:Int)-yk a0.2.1 a1) (by omega) (by omega),wq ((i:Int)-yk a0.2.1 a1-1) (by omega) (by omega),wq ((i:Int)-yk a0.2.1 a1-1+s.2.1.1) (by omega) (by omega),zj4.2 (show 0≤((i:Int)-yk a0.2.1 a1-1+s.2.1.1).tmod s.2.1.1∧((i:Int)-yk a0.2.1 a1-1+s.2.1.1).tmod s.2.1.1<a2.length by omega)]
    rw[ylL s i (yA a1) [nth a2 (((i:Int)-yk a0.2.1 a1-1+s.2.1.1).tmod s.2.1.1) 0] (zkP (by rw[hs.1]; exact hi))]
    cases ycC s i a1<;>rfl,(yqm _ _ _ _ s i).trans hs.1,(yah (yJW _ _ _ _ s i)).trans hs.2⟩) (fun s hs=>by simp only[yd3,yrN,ysm,hs.1,zk1 (Int.le_refl _),cond_false]) a0 ⟨rfl,rfl⟩ _ (by show _<18446744073709551616; omega)
 unfold yva yq9 ydK;exact(congrArg (fun z=>zkr z _ _) h1).trans rfl
def yhO (a0:dA) (a1:Int) (a2:List Int):Option (zaY yq5×zak ylp):=bif ylM a0 a1 a2 then(fun n=>some ((),(n,()))) (yq9 a0 a1 a2)else none
theorem yYh (a0:dA) (a1:Int) (a2:List Int) (h:ylM a0 a1 a2=true):yhO a0 a1 a2=(fun n=>some ((),(n,()))) (yq9 a0 a1 a2):=by unfold yhO; rw[h]; rfl
def yFC:Con:=⟨ylp,yq5,fun x=>yhO x.1 x.2.1 x.2.2.1⟩
theorem yYd:ConOk prog 170 yFC:=(yU7).mono (fun x r hk h=>zkW h (fun hq=>yXs x.1 x.2.1 x.2.2.1 hk hq))
def yV6:Code:=(f171.body).getD .skip
def yWx:Env:=zku TT [(174,ymZ),(208,ym0)] []
theorem yM3:FrOk prog ⟨yWx,17,fun _=>none⟩ yV6:=zky yf yg ⟨yw3,yw4,trivial⟩
abbrev ywt:List Par:= [.pt tA (.pr .fz (.pr (.pr .fz .fz) (.pr (.ow (.pr (.ow .fz) (.pr (.ow (.pr .fz .fz)) (.pr .fz (.ow .fz))))) (.pr .fz (.pr .fz (.pr .fz (.pr .fz (.pr .fz (.pr (.ow (.pr .fz .fz)) (.pr .fz (.pr .fz .fz)))))))))))]
abbrev ywO:List OT:= []
def yEt (a0:dA):Option (zaY ywO×zak ywt) :=let r1:=yeb a0;bif r1.2.2.2.2.2.2.2.2.2.2.1 then some ((),(r1,())) else let r2:=ya7 (r1.1,r1.2.1,r1.2.2.1,r1.2.2.2.1,r1.2.2.2.2.1,r1.2.2.2.2.2.1,r1.2.2.2.2.2.1,r1.2.2.2.2.2.2.2);some ((),(r2,()))
theorem yRk:ConOk prog 171 ⟨ywt,ywO,fun x=>yEt x.1⟩:=zkG (yM3) func171 ntmps171.symm fun x=>by kernel_rfl
def ygG (a0:dA):dA :=let r1:=yeb a0;bif r1.2.2.2.2.2.2.2.2.2.2.1 then r1 else let r2:=ya7 (r1.1,r1.2.1,r1.2.2.1,r1.2.2.2.1,r1.2.2.2.2.1,r1.2.2.2.2.2.1,r1.2.2.2.2.2.1,r1.2.2.2.2.2.2.2);r2
def yry:Con:=⟨ywt,ywO,fun x=>(fun n=>some ((),(n,()))) (ygG x.1)⟩
theorem yUr (a0:dA):yEt a0=(fun n=>some ((),(n,()))) (ygG a0):=zkT (p:=fun(n:dA)=>((),(n,()))) (zkE (p:=fun(n:dA)=>((),(n,()))) rfl rfl)
theorem yFU:ConOk prog 171 yry:=(yRk).mono (fun x r _ h=>(yUr x.1).trans h)
theorem yIP (a:dA):ygG a=yp a:=by
 unfold ygG yp yeb ya7;show(bif ya (ye a)then ye a else yD (yU (ye a)))=_;rfl
def yV7:Code:=(f217.body).getD .skip
def yWy:Env:=zku TT [(169,yG8),(170,yFC),(171,yry)] []
theorem yM4:FrOk prog ⟨yWy,54,fun _=>none⟩ yV7:=zky yf yg ⟨y0E,yYd,yFU,trivial⟩
abbrev yjP:List Par:= [.pt tA (.pr .fz (.pr (.pr .fz .fz) (.pr (.ow (.pr (.ow .fz) (.pr (.ow (.pr .fz .fz)) (.pr .fz (.ow .fz))))) (.pr .fz (.pr .fz (.pr .fz (.pr .fz (.pr .fz (.pr (.ow (.pr .fz .fz)) (.pr .fz (.pr .fz .fz))))))))))),.rd tI,.rd tL]
abbrev yoM:List OT:= [⟨false,tI,.fz⟩]
def ysa (a0:dA) (a1:Int) (a2:List Int):Option (zaY yoM×zak yjP) :=bif(leb 4 (i64.wrap (a0.2.2.2.2.2.1-a0.2.2.2.2.2.2.1)))then let r1:=ygG a0;bif r1.2.2.2.2.2.2.2.2.2.2.1 then some ((6,()),(r1,())) else bif(zkj ([]:List Int).length a2.length 8)then let r2:=yki r1 (r1.2.2.2.2.2.1,a1,(([]:List Int)++a2));bif r2.2.2.2.2.2.2.2.2.2.2.1 then some ((6,()),(r2,())) else bnd (yhO (r2.1,r2.2.1,r2.2.2.1,r2.2.2.2.1,r2.2.2.2.2.1,(i64.wrap (r2.2.2.2.2.2.1+1)),r2.2.2.2.2.2.2) a1 a2) fun r3 =>bif r3.2.1.2.2.2.2.2.2.2.2.2.2.1 then some ((6,()),(r3.2.1,())) else some ((0,()),(r3.2.1,())) else none else bif a0.2.2.2.2.2.2.2.2.2.2.1 then some ((6,()),(a0,())) else bif(zkj ([]:List Int).length a2.length 8)then let r4:=yki a0 (a0.2.2.2.2.2.1,a1,(([]:List Int)++a2));bif r4.2.2.2.2.2.2.2.2.2.2.1 then some ((6,()),(r4,())) else bnd (yhO (r4.1,r4.2.1,r4.2.2.1,r4.2.2.2.1,r4.2.2.2.2.1,(i64.wrap (r4.2.2.2.2.2.1+1)),r4.2.2.2.2.2.2) a1 a2) fun r5 =>bif r5.2.1.2.2.2.2.2.2.2.2.2.2.1 then some ((6,()),(r5.2.1,())) else some ((0,()),(r5.2.1,())) else none
theorem yRl:ConOk prog 217 ⟨yjP,yoM,fun x=>ysa x.1 x.2.1 x.2.2.1⟩:=zkG (yM4) func217 ntmps217.symm fun x=>by kernel_rfl
def ykj (a0:dA) (a1:Int) (a2:List Int):Int×dA:=yz a0 a1 a2
def ykq (a0:dA) (a1:Int) (a2:List Int):Bool:=yL a0.2.1 a1&&((a2.length:Int)==a0.2.1.1-1&&(a0.2.2.1.length:Int)==a0.2.1.1)
theorem yUs (a0:dA) (a1:Int) (a2:List Int) (hk:zjw yjP (a0,a1,a2,())) (hq:ykq a0 a1 a2=true):ysa a0 a1 a2=(fun n=>some ((n.1,()),(n.2,()))) (ykj a0 a1 a2):=by
 have hq':=hq;simp only[ykq,Bool.and_eq_true,beq_iff_eq]at hq;have hg:=yl.1 (yV.1 hq.1).1;have hap:zkj ([]:List Int).length a2.length 8=true:=zkD.2 (by simp only[List.length_nil]; omega)
 have key: ∀b:dA,b.2.1=a0.2.1→b.2.2.1.length=a0.2.2.1.length→yhO (yC (yo b (b.2.2.2.2.2.1,a1,a2))) a1 a2=some ((),(yB (yC (yo b (b.2.2.2.2.2.1,a1,a2))) a1 a2,())):=fun b h1 h2=>yYh _ _ _ (by
  unfold ylM;rw[show(yC (yo b (b.2.2.2.2.2.1,a1,a2))).2.1=a0.2.1 from(yah (ya2 _ _)).trans h1,show(yC (yo b (b.2.2.2.2.2.1,a1,a2))).2.2.1.length=a0.2.2.1.length from(yHM _ _).trans h2]
  exact hq')
 unfold ysa ykj yz yv;simp only[yIP,yki,List.nil_append,hap,cond_true];cases leb 4 (i64.wrap (a0.2.2.2.2.2.1-a0.2.2.2.2.2.2.1))
 ·have hd:=key a0 rfl rfl
  simp only[cond_false];generalize yo a0 (a0.2.2.2.2.2.1,a1,a2)=R at hd ⊢;generalize yB (yC R) a1 a2=Q at hd ⊢;unfold yC at hd;simp only[cond_false,hd,zkF];unfold ya;cases a0.2.2.2.2.2.2.2.2.2.2.1
  ·cases R.2.2.2.2.2.2.2.2.2.2.1
   ·cases Q.2.2.2.2.2.2.2.2.2.2.1<;>rfl
   ·rfl
  ·rfl
 ·have hd:=key (yp a0) (yJU a0) (yYu a0)
  simp only[cond_true];generalize yp a0=C at hd ⊢;generalize yo C (C.2.2.2.2.2.1,a1,a2)=R at hd ⊢;generalize yB (yC R) a1 a2=Q at hd ⊢;unfold yC at hd;simp only[cond_true,hd,zkF];unfold ya;cases C.2.2.2.2.2.2.2.2.2.2.1
  ·cases R.2.2.2.2.2.2.2.2.2.2.1
   ·cases Q.2.2.2.2.2.2.2.2.2.2.1<;>rfl
   ·rfl
  ·rfl
def yo5 (a0:dA) (a1:Int) (a2:List Int):Option (zaY yoM×zak yjP):=bif ykq a0 a1 a2 then(fun n=>some ((n.1,()),(n.2,()))) (ykj a0 a1 a2)else none
theorem yVx (a0:dA) (a1:Int) (a2:List Int) (h:ykq a0 a1 a2=true):yo5 a0 a1 a2=(fun n=>some ((n.1,()),(n.2,()))) (ykj a0 a1 a2):=by unfold yo5; rw[h]; rfl
def yDu:Con:=⟨yjP,yoM,fun x=>yo5 x.1 x.2.1 x.2.2.1⟩
theorem yVq:ConOk prog 217 yDu:=(yRl).mono (fun x r hk h=>zkW h (fun hq=>yUs x.1 x.2.1 x.2.2.1 hk hq))
def yV8:Code:=(f179.body).getD .skip
def yWz:Env:=zku TT [(215,yz5),(216,yFB),(217,yDu)] [(36928,(.pr .fz .fz))]
theorem yM5:FrOk prog ⟨yWz,63,fun _=>none⟩ yV8:=zky yf yg ⟨yLl,yYc,yVq,trivial⟩
abbrev yjQ:List Par:= [.pt tA (.pr .fz (.pr (.pr .fz .fz) (.pr (.ow (.pr (.ow .fz) (.pr (.ow (.pr .fz .fz)) (.pr .fz (.ow .fz))))) (.pr .fz (.pr .fz (.pr .fz (.pr .fz (.pr .fz (.pr (.ow (.pr .fz .fz)) (.pr .fz (.pr .fz .fz))))))))))),.rd tI]
abbrev yoN:List OT:= [⟨false,tI,.fz⟩]
def ysb (a0:dA) (a1:Int):Option (zaY yoN×zak yjQ) :=let r1:=yje a0 a1;bif(ltb r1 0)then some ((0,()),(a0,())) else bif(inb r1 a0.2.2.2.2.2.2.2.2.1.length)then let r2:=yP a0 a1 ((nth a0.2.2.2.2.2.2.2.2.1 r1 (0,[])).2);bif(r2 !=0)then some ((r2,()),(a0,())) else bif(inb r1 a0.2.2.2.2.2.2.2.2.1.length)then bnd (yo5 a0 a1 ((nth a0.2.2.2.2.2.2.2.2.1 r1 (0,[])).2)) fun r3 =>bif(r3.1.1==0)then bif(zjY 0 r1 r3.2.1.2.2.2.2.2.2.2.2.1.length)then bif(zkj ([]:List dW).length ((r3.2.1.2.2.2.2.2.2.2.2.1.drop (0:Int).toNat).take (r1-0).toNat).length 32)then bif(zjY (i64.wrap (r1+1)) (r3.2.1.2.2.2.2.2.2.2.2.1.length:Int) r3.2.1.2.2.2.2.2.2.2.2.1.length)then bif(zkj (([]:List dW)++((r3.2.1.2.2.2.2.2.2.2.2.1.drop (0:Int).toNat).take (r1-0).toNat)).length ((r3.2.1.2.2.2.2.2.2.2.2.1.drop ((i64.wrap (r1+1))).toNat).take ((r3.2.1.2.2.2.2.2.2.2.2.1.length:Int)-(i64.wrap (r1+1))).toNat).length 32)then some ((r3.1.1,()),((r3.2.1.1,r3.2.1.2.1,r3.2.1.2.2.1,r3.2.1.2.2.2.1,r3.2.1.2.2.2.2.1,r3.2.1.2.2.2.2.2.1,r3.2.1.2.2.2.2.2.2.1,r3.2.1.2.2.2.2.2.2.2.1,((([]:List dW)++((r3.2.1.2.2.2.2.2.2.2.2.1.drop (0:Int).toNat).take (r1-0).toNat))++((r3.2.1.2.2.2.2.2.2.2.2.1.drop ((i64.wrap (r1+1))).toNat).take ((r3.2.1.2.2.2.2.2.2.2.2.1.length:Int)-(i64.wrap (r1+1))).toNat)),r3.2.1.2.2.2.2.2.2.2.2.2),())) else none else none else none else none else some ((r3.1.1,()),(r3.2.1,())) else none else none
theorem yRm:ConOk prog 179 ⟨yjQ,yoN,fun x=>ysb x.1 x.2.1⟩:=zkG (yM5) func179 ntmps179.symm fun x=>by kernel_rfl
def ykk (a0:dA) (a1:Int):Int×dA:=yaR a0 a1
def yw9 (a0:dA) (a1:Int):Bool:=decide (a0.2.2.2.2.2.2.2.2.1.length≤1000)
theorem yUt (a0:dA) (a1:Int) (hk:zjw yjQ (a0,a1,())) (hq:yw9 a0 a1=true):ysb a0 a1=(fun n=>some ((n.1,()),(n.2,()))) (ykk a0 a1):=by
 have hq:=of_decide_eq_true hq;unfold ysb ykk yaR;simp only[yje];cases h0:ltb (yam a0.2.2.2.2.2.2.2.2.1 a1) 0
 ·have h1:=zkU h0
  have hi:inb (yam a0.2.2.2.2.2.2.2.2.1 a1) a0.2.2.2.2.2.2.2.2.1.length=true:=(ynz (d:=((0:Int),([]:List Int))) (zk0 h1)).1;simp only[hi,cond_true,cond_false];generalize hD:(nth a0.2.2.2.2.2.2.2.2.1 (yam a0.2.2.2.2.2.2.2.2.1 a1) (0,[])).2=D;cases hc:(yP a0 a1 D !=0)
  ·obtain⟨ha,hl,hw,hd,hs,hb,_⟩:=yxU (bne_eq_false_iff_eq.1 hc)
   rw[yVx a0 a1 D (by unfold ykq; rw[hs,hl,yE2 ha]; simp)];simp only[zkF,cond_false,ykj,y2p];have hk:=zj4.1 hi;cases hr:((yz a0 a1 D).1==0)
   ·rfl
   ·generalize yam a0.2.2.2.2.2.2.2.2.1 a1=K at h1 hk
    rw[wq (K+1) (by omega) (by omega),zkx.2 (show(0:Int)≤0∧0≤K∧K≤(a0.2.2.2.2.2.2.2.2.1.length:Int)by omega),zkx.2 (show 0≤K+1∧K+1≤(a0.2.2.2.2.2.2.2.2.1.length:Int)∧(a0.2.2.2.2.2.2.2.2.1.length:Int)≤(a0.2.2.2.2.2.2.2.2.1.length:Int)by omega),
     zkD.2 (by rw[List.length_take,List.length_drop,List.length_nil]; omega),zkD.2 (by rw[List.length_append,List.length_take,List.length_take,List.length_drop,List.length_drop,List.length_nil]; omega),y3B h1 hk.2]
    rw[beq_iff_eq.1 hr]; rfl
  ·rfl
 ·rfl
def yc7 (a0:dA) (a1:Int):Option (zaY yoN×zak yjQ):=bif yw9 a0 a1 then(fun n=>some ((n.1,()),(n.2,()))) (ykk a0 a1)else none
theorem yFX (a0:dA) (a1:Int) (h:yw9 a0 a1=true):yc7 a0 a1=(fun n=>some ((n.1,()),(n.2,()))) (ykk a0 a1):=by unfold yc7; rw[h]; rfl
def yrz:Con:=⟨yjQ,yoN,fun x=>yc7 x.1 x.2.1⟩
theorem yFV:ConOk prog 179 yrz:=(yRm).mono (fun x r hk h=>zkW h (fun hq=>yUt x.1 x.2.1 hk hq))
def ysR:Code:=(f117.body).getD .skip
def yCt:Env:=zku TT [(179,yrz)] []
theorem yTI:FrOk prog ⟨yCt,22,fun _=>none⟩ ysR:=zky yf yg ⟨yFV,trivial⟩
def yGR:Nat→Option Seg:=fun _=>none
def yew:Shape:=⟨[(0,false,[.ptr 1000000000 0])],[(1000000000,[.int .i64,.int .i64,.int .i64,.at 800000000,.int .i64,.int .i64,.int .i64,.int .i64,.int .i64,.at 800000001,.int .i64,.bool,.bool])],[(800000000,tM,(.pr (.ow .fz) (.pr (.ow (.pr .fz .fz)) (.pr .fz (.ow .fz))))),(800000001,tW,(.pr .fz .fz))]⟩
def yjX:Shape:=⟨[(0,false,[.ptr 1000000000 0])],[(1000000000,[.int .i64,.int .i64,.int .i64,.at 800000000,.int .i64,.int .i64,.int .i64,.int .i64,.int .i64,.at 800000001,.int .i64,.bool,.bool])],[(800000000,tM,(.pr (.ow .fz) (.pr (.ow (.pr .fz .fz)) (.pr .fz (.ow .fz))))),(800000001,tW,(.pr .fz .fz))]⟩
def yjT:Shape:=⟨[],[(1000000000,[.int .i64,.int .i64,.int .i64,.at 800000000,.int .i64,.int .i64,.int .i64,.int .i64,.int .i64,.at 800000001,.int .i64,.bool,.bool])],[(800000000,tM,(.pr (.ow .fz) (.pr (.ow (.pr .fz .fz)) (.pr .fz (.ow .fz))))),(800000001,tW,(.pr .fz .fz))]⟩
def yj1:Shape:=⟨[(2,false,[.int .i64])],[(1000000000,[.int .i64,.int .i64,.int .i64,.at 800000000,.int .i64,.int .i64,.int .i64,.int .i64,.int .i64,.at 800000001,.int .i64,.bool,.bool])],[(800000000,tM,(.pr (.ow .fz) (.pr (.ow (.pr .fz .fz)) (.pr .fz (.ow .fz))))),(800000001,tW,(.pr .fz .fz))]⟩
abbrev yuG (v0:dA):(yew).X:=((((),()),()),((v0.1,v0.2.1.1,v0.2.1.2,(),v0.2.2.2.1,v0.2.2.2.2.1,v0.2.2.2.2.2.1,v0.2.2.2.2.2.2.1,v0.2.2.2.2.2.2.2.1,(),v0.2.2.2.2.2.2.2.2.2.1,v0.2.2.2.2.2.2.2.2.2.2.1,v0.2.2.2.2.2.2.2.2.2.2.2,()),()),(v0.2.2.1,v0.2.2.2.2.2.2.2.2.1,()))
abbrev yT0 (v0:dA):(yjX).X:=((((),()),()),((v0.1,v0.2.1.1,v0.2.1.2,(),v0.2.2.2.1,v0.2.2.2.2.1,v0.2.2.2.2.2.1,v0.2.2.2.2.2.2.1,v0.2.2.2.2.2.2.2.1,(),v0.2.2.2.2.2.2.2.2.2.1,v0.2.2.2.2.2.2.2.2.2.2.1,v0.2.2.2.2.2.2.2.2.2.2.2,()),()),(v0.2.2.1,v0.2.2.2.2.2.2.2.2.1,()))
abbrev yTW (v0:dA):(yjT).X:=((),((v0.1,v0.2.1.1,v0.2.1.2,(),v0.2.2.2.1,v0.2.2.2.2.1,v0.2.2.2.2.2.1,v0.2.2.2.2.2.2.1,v0.2.2.2.2.2.2.2.1,(),v0.2.2.2.2.2.2.2.2.2.1,v0.2.2.2.2.2.2.2.2.2.2.1,v0.2.2.2.2.2.2.2.2.2.2.2,()),()),(v0.2.2.1,v0.2.2.2.2.2.2.2.2.1,()))
abbrev yT3 (v0:Int) (v1:dA):(yj1).X:=(((v0,()),()),((v1.1,v1.2.1.1,v1.2.1.2,(),v1.2.2.2.1,v1.2.2.2.2.1,v1.2.2.2.2.2.1,v1.2.2.2.2.2.2.1,v1.2.2.2.2.2.2.2.1,(),v1.2.2.2.2.2.2.2.2.2.1,v1.2.2.2.2.2.2.2.2.2.2.1,v1.2.2.2.2.2.2.2.2.2.2.2,()),()),(v1.2.2.1,v1.2.2.2.2.2.2.2.2.1,()))
def yvl (v0 v1 v2 v3 v4 v5 v6 v7 v8:Int) (v9 v10:Bool) (v11:List dM) (v12:List dW):Option ((yew).X ⊕ ((yjT).X ⊕ (yj1).X)) :=bif(ltb 0 (v12.length:Int))then bif(inb 0 v12.length)then bnd (yc7 (v0,(v1,v2),v11,v3,v4,v5,v6,v7,v12,v8,v9,v10) ((nth v12 0 (0,[])).1)) fun r2 =>bif(r2.1.1 !=0)then some (.inr (.inr (((r2.1.1,()),()),((r2.2.1.1,r2.2.1.2.1.1,r2.2.1.2.1.2,(),r2.2.1.2.2.2.1,r2.2.1.2.2.2.2.1,r2.2.1.2.2.2.2.2.1,r2.2.1.2.2.2.2.2.2.1,r2.2.1.2.2.2.2.2.2.2.1,(),r2.2.1.2.2.2.2.2.2.2.2.2.1,r2.2.1.2.2.2.2.2.2.2.2.2.2.1,r2.2.1.2.2.2.2.2.2.2.2.2.2.2,()),()),(r2.2.1.2.2.1,r2.2.1.2.2.2.2.2.2.2.2.1,())))) else some (.inl ((((),()),()),((r2.2.1.1,r2.2.1.2.1.1,r2.2.1.2.1.2,(),r2.2.1.2.2.2.1,r2.2.1.2.2.2.2.1,r2.2.1.2.2.2.2.2.1,r2.2.1.2.2.2.2.2.2.1,r2.2.1.2.2.2.2.2.2.2.1,(),r2.2.1.2.2.2.2.2.2.2.2.2.1,r2.2.1.2.2.2.2.2.2.2.2.2.2.1,r2.2.1.2.2.2.2.2.2.2.2.2.2.2,()),()),(r2.2.1.2.2.1,r2.2.1.2.2.2.2.2.2.2.2.1,()))) else none else some (.inr (.inl ((),((v0,v1,v2,(),v3,v4,v5,v6,v7,(),v8,v9,v10,()),()),(v11,v12,()))))
def yeK (x:(yew).X):=yvl x.2.1.1.1 x.2.1.1.2.1 x.2.1.1.2.2.1 x.2.1.1.2.2.2.2.1 x.2.1.1.2.2.2.2.2.1 x.2.1.1.2.2.2.2.2.2.1 x.2.1.1.2.2.2.2.2.2.2.1 x.2.1.1.2.2.2.2.2.2.2.2.1 x.2.1.1.2.2.2.2.2.2.2.2.2.2.1 x.2.1.1.2.2.2.2.2.2.2.2.2.2.2.1 x.2.1.1.2.2.2.2.2.2.2.2.2.2.2.2.1 x.2.2.1 x.2.2.2.1
def yFF (x:(yjX).X):(yew).X:=((((),()),()),((x.2.1.1.1,x.2.1.1.2.1,x.2.1.1.2.2.1,(),x.2.1.1.2.2.2.2.1,x.2.1.1.2.2.2.2.2.1,x.2.1.1.2.2.2.2.2.2.1,x.2.1.1.2.2.2.2.2.2.2.1,x.2.1.1.2.2.2.2.2.2.2.2.1,(),x.2.1.1.2.2.2.2.2.2.2.2.2.2.1,x.2.1.1.2.2.2.2.2.2.2.2.2.2.2.1,x.2.1.1.2.2.2.2.2.2.2.2.2.2.2.2.1,()),()),(x.2.2.1,x.2.2.2.1,()))
def yG0:Code:=(zeJ ysR 64 24).getD .skip
theorem yWC:zeJ ysR 64 6=some (.block 0 (.loop yG0)):=by kernel_rfl
theorem yYk (x:(yew).X):zhu ⟨yCt,22,yGR⟩ 0 yG0 24 yew yjT yj1 x=yeK x:=by kernel_rfl
def yFJ (x:(yjX).X):Nat:=18446744073709551616
def ywk (x:(yjX).X):Option ((yjT).X ⊕ (yj1).X):=zF yeK (yFJ x) (yFF x)
def yGh:Seg:=⟨yjX,yjT,yj1,ywk⟩
def yWj:Nat→Option Seg:=fun q=>bif Nat.beq q 6 then some yGh else yGR q
theorem yTJ:FrOk prog ⟨yCt,22,yWj⟩ ysR:=(yTI).loop (sg:=yGh) yew yFF (by decide) yWC yeK yFJ (by decide) (fun _=>rfl) (fun x r _ h=>h) yYk
abbrev ynk:List Par:= [.pt tA (.pr .fz (.pr (.pr .fz .fz) (.pr (.ow (.pr (.ow .fz) (.pr (.ow (.pr .fz .fz)) (.pr .fz (.ow .fz))))) (.pr .fz (.pr .fz (.pr .fz (.pr .fz (.pr .fz (.pr (.ow (.pr .fz .fz)) (.pr .fz (.pr .fz .fz)))))))))))]
abbrev ytY:List OT:= [⟨false,tI,.fz⟩]
def yxl (a0:dA):Option (zaY ytY×zak ynk) :=zkr (ywk ((((),()),()),((a0.1,a0.2.1.1,a0.2.1.2,(),a0.2.2.2.1,a0.2.2.2.2.1,a0.2.2.2.2.2.1,a0.2.2.2.2.2.2.1,a0.2.2.2.2.2.2.2.1,(),a0.2.2.2.2.2.2.2.2.2.1,a0.2.2.2.2.2.2.2.2.2.2.1,a0.2.2.2.2.2.2.2.2.2.2.2,()),()),(a0.2.2.1,a0.2.2.2.2.2.2.2.2.1,()))) (fun y2 =>some ((0,()),((y2.2.1.1.1,(y2.2.1.1.2.1,y2.2.1.1.2.2.1),y2.2.2.1,y2.2.1.1.2.2.2.2.1,y2.2.1.1.2.2.2.2.2.1,y2.2.1.1.2.2.2.2.2.2.1,y2.2.1.1.2.2.2.2.2.2.2.1,y2.2.1.1.2.2.2.2.2.2.2.2.1,y2.2.2.2.1,y2.2.1.1.2.2.2.2.2.2.2.2.2.2.1,y2.2.1.1.2.2.2.2.2.2.2.2.2.2.2.1,y2.2.1.1.2.2.2.2.2.2.2.2.2.2.2.2.1),()))) (fun y2 =>some ((y2.1.1.1,()),((y2.2.1.1.1,(y2.2.1.1.2.1,y2.2.1.1.2.2.1),y2.2.2.1,y2.2.1.1.2.2.2.2.1,y2.2.1.1.2.2.2.2.2.1,y2.2.1.1.2.2.2.2.2.2.1,y2.2.1.1.2.2.2.2.2.2.2.1,y2.2.1.1.2.2.2.2.2.2.2.2.1,y2.2.2.2.1,y2.2.1.1.2.2.2.2.2.2.2.2.2.2.1,y2.2.1.1.2.2.2.2.2.2.2.2.2.2.2.1,y2.2.1.1.2.2.2.2.2.2.2.2.2.2.2.2.1),())))
theorem yXQ:ConOk prog 117 ⟨ynk,ytY,fun x=>yxl x.1⟩:=zkG (yTJ) func117 ntmps117.symm fun x=>by kernel_rfl
def yuL (a0:dA):Int×dA:=yJS a0
def yEm (a0:dA):Bool:=decide (a0.2.2.2.2.2.2.2.2.1.length≤1000)
theorem y0q (a0:dA) (hk:zjw ynk (a0,())) (hq:yEm a0=true):yxl a0=(fun n=>some ((n.1,()),(n.2,()))) (yuL a0):=by
 have hq:=of_decide_eq_true hq
 have h1:=zkA (step:=yeK) a0.2.2.2.2.2.2.2.2.1.length (fun _ s=>yuG s) ylX (fun i s=>s.2.2.2.2.2.2.2.2.1.length+i=a0.2.2.2.2.2.2.2.2.1.length) (fun b=>(0,b))
  (fun r=>bif r.1==0 then .inl (yTW r.2)else .inr (yT3 r.1 r.2)) (fun i s hi hs=>by
   have hp:0<s.2.2.2.2.2.2.2.2.1.length:=by omega
   constructor
   ·simp only[yeK,yuG,yvl,zkV,zkw (show(0:Int)<(s.2.2.2.2.2.2.2.2.1.length:Int)by omega),cond_true,show inb 0 s.2.2.2.2.2.2.2.2.1.length=true from zkP (i:=0) hp]
    rw[yFX s (nth s.2.2.2.2.2.2.2.2.1 0 (0,[])).1 (decide_eq_true (show s.2.2.2.2.2.2.2.2.1.length≤1000 by omega))];simp only[zkF,ykk];unfold ylX;generalize yaR s (nth s.2.2.2.2.2.2.2.2.1 0 (0,[])).1=R;cases hr:(R.1 !=0)
    ·rfl
    ·simp only[cond_true]
     rw[show(R.1==0)=false from beq_eq_false_iff_ne.2 (bne_iff_ne.1 hr)]; rfl
   ·intro s' h
    unfold ylX at h;cases hr:((yaR s (nth s.2.2.2.2.2.2.2.2.1 0 (0,[])).1).1 !=0)
    ·rw[hr]at h
     simp only[cond_false,Sum.inl.injEq]at h;rw[← h,y26 hp (bne_eq_false_iff_eq.1 hr),List.length_drop]; omega
    ·rw[hr]at h; cases h) (fun s hs=>by
   simp only[yeK,yuG,yvl,show ltb 0 (s.2.2.2.2.2.2.2.2.1.length:Int)=false from zk1 (by omega)]; rfl) a0 rfl 18446744073709551616 (by omega)
 unfold yxl yuL yJS;refine(congrArg (fun z=>zkr z _ _) (show ywk (yT0 a0)=_ from h1)).trans ?_;generalize goE ylX (fun b=>(0,b)) a0.2.2.2.2.2.2.2.2.1.length 0 a0=R;cases hr:(R.1==0)
 ·rfl
 ·simp only[cond_true,zkL,zkV]
  rw[show R.1=0 from beq_iff_eq.1 hr]
def ynT (a0:dA):Option (zaY ytY×zak ynk):=bif yEm a0 then(fun n=>some ((n.1,()),(n.2,()))) (yuL a0)else none
theorem y0I (a0:dA) (h:yEm a0=true):ynT a0=(fun n=>some ((n.1,()),(n.2,()))) (yuL a0):=by unfold ynT; rw[h]; rfl
def yG9:Con:=⟨ynk,ytY,fun x=>ynT x.1⟩
theorem y0F:ConOk prog 117 yG9:=(yXQ).mono (fun x r hk h=>zkW h (fun hq=>y0q x.1 hk hq))
def y0Y:Code:=(f80.body).getD .skip
def y09:Env:=zku TT [(72,ya0)] []
theorem yTz:FrOk prog ⟨y09,12,fun _=>none⟩ y0Y:=zky yf yg ⟨ycf,trivial⟩
abbrev yCB:List Par:= [.pt tU .fz,.rd tL]
abbrev yCS:List OT:= [⟨false,tI,.fz⟩]
def yeH (a0:dU) (a1:List Int):Option (zaY yCS×zak yCB) :=bnd (yn a0 (a1.length:Int)) fun r1 =>bif(inb r1.1.1 a1.length)then some (((nth a1 r1.1.1 0),()),(r1.2.1,())) else none
theorem yXK:ConOk prog 80 ⟨yCB,yCS,fun x=>yeH x.1 x.2.1⟩:=zkG (yTz) func80 ntmps80.symm fun x=>by kernel_rfl
def yoR:Con:=⟨yCB,yCS,fun x=>yeH x.1 x.2.1⟩
theorem yAd:ConOk prog 80 yoR:=yXK
theorem y1j (u:List Int×Int×Int) (l:List Int) (h:ycA u) (hl:l≠ []): ∃(r:Int) (u':List Int×Int×Int),yeH u l=some ((r,()),(u',()))∧r∈l∧ycA u':=by
 unfold yeH;obtain⟨r1,u1,e1,q1,d1⟩:=ycV u (l.length:Int) h;have hp:0<l.length:=List.length_pos_iff.2 hl;have hr:=q1.2.1 (by omega);simp only[e1,zkF,zj4.2 ⟨q1.1,hr⟩,cond_true];refine⟨_,_,rfl,?_,d1⟩;have:r1.toNat<l.length:=by have:=q1.1; omega
 unfold nth;rw[List.getD_eq_getElem?_getD,List.getElem?_eq_getElem this,Option.getD_some];exact List.getElem_mem this
def yZq:Code:=(f120.body).getD .skip
def yZX:Env:=zku TT [(80,yoR)] []
theorem yPE:FrOk prog ⟨yZX,6,fun _=>none⟩ yZq:=zky yf yg ⟨yAd,trivial⟩
abbrev yzm:List Par:= [.pt tU .fz]
abbrev yzS:List OT:= [⟨false,tI,.fz⟩]
def ybo (a0:dU):Option (zaY yzS×zak yzm) :=bnd (yeH a0 ([0,1,2,7,255,256,4660,65535]:List Int)) fun r1 =>some ((r1.1.1,()),(r1.2.1,()))
theorem yUV:ConOk prog 120 ⟨yzm,yzS,fun x=>ybo x.1⟩:=zkG (yPE) func120 ntmps120.symm fun x=>by kernel_rfl
def yFv:Con:=⟨yzm,yzS,fun x=>ybo x.1⟩
theorem yX6:ConOk prog 120 yFv:=yUV
theorem y4X (u:List Int×Int×Int) (h:ycA u): ∃(r:Int) (u':List Int×Int×Int),ybo u=some ((r,()),(u',()))∧yb r 0 65535=true∧ycA u':=by
 unfold ybo;obtain⟨r1,u1,e1,q1,d1⟩:=y1j u [0,1,2,7,255,256,4660,65535] h (by simp);simp only[e1,zkF];refine⟨_,_,rfl,?_,d1⟩;simp only[List.mem_cons,List.not_mem_nil,or_false]at q1;exact y5T (by omega) (by omega)
def ySg:Code:=(f203.body).getD .skip
def ySK:Env:=zku TT [(174,ymZ),(177,yuh),(178,ymY)] []
theorem yKv:FrOk prog ⟨ySK,27,fun _=>none⟩ ySg:=zky yf yg ⟨yw3,yHw,yw2,trivial⟩
abbrev yh2:List Par:= [.pt tA (.pr .fz (.pr (.pr .fz .fz) (.pr (.ow (.pr (.ow .fz) (.pr (.ow (.pr .fz .fz)) (.pr .fz (.ow .fz))))) (.pr .fz (.pr .fz (.pr .fz (.pr .fz (.pr .fz (.pr (.ow (.pr .fz .fz)) (.pr .fz (.pr .fz .fz)))))))))))]
abbrev ymK:List OT:= [⟨false,tI,.fz⟩]
def yp7 (a0:dA):Option (zaY ymK×zak yh2) :=let r1:=ycI a0.2.1;let r2:=yea r1;bif(inb a0.2.2.2.1 a0.2.2.1.length)then let r3:=ya7 (a0.1,a0.2.1,(a0.2.2.1.set (a0.2.2.2.1).toNat r2),a0.2.2.2.1,0,a0.2.2.2.2.2);bif r3.2.2.2.2.2.2.2.2.2.2.1 then some ((6,()),(r3,())) else some ((0,()),(r3,())) else none
theorem yNT:ConOk prog 203 ⟨yh2,ymK,fun x=>yp7 x.1⟩:=zkG (yKv) func203 ntmps203.symm fun x=>by kernel_rfl
def ym4 (a0:dA):Int×dA:=(bif ya (yD (yaa a0))then 6 else 0,yD (yaa a0))
def yi7 (a0:dA):Bool:=yd a0.2.1&&inb a0.2.2.2.1 a0.2.2.1.length
theorem yQT (a0:dA) (hk:zjw yh2 (a0,())) (hq:yi7 a0=true):yp7 a0=(fun n=>some ((n.1,()),(n.2,()))) (ym4 a0):=by
 simp only[yi7,Bool.and_eq_true]at hq;have hg:=yl.1 hq.1;unfold yp7 ym4;simp only[ycI,wq (6+a0.2.1.2) (by omega) (by omega),hq.2,yea,ya7];show(bif ya (yD (yaa a0))then some ((6,()),(yD (yaa a0),()))else some ((0,()),(yD (yaa a0),())))=_;cases ya (yD (yaa a0))<;>rfl
def yi4 (a0:dA):Option (zaY ymK×zak yh2):=bif yi7 a0 then(fun n=>some ((n.1,()),(n.2,()))) (ym4 a0)else none
theorem yRH (a0:dA) (h:yi7 a0=true):yi4 a0=(fun n=>some ((n.1,()),(n.2,()))) (ym4 a0):=by unfold yi4; rw[h]; rfl
def yAY:Con:=⟨yh2,ymK,fun x=>yi4 x.1⟩
theorem yRD:ConOk prog 203 yAY:=(yNT).mono (fun x r hk h=>zkW h (fun hq=>yQT x.1 hk hq))
def yV4:Code:=(f204.body).getD .skip
def yWv:Env:=zku TT [(113,yfs),(206,yj4),(227,yrx)] []
theorem yMV:FrOk prog ⟨yWv,49,fun _=>none⟩ yV4:=zky yf yg ⟨yko,yrc,yFT,trivial⟩
abbrev yjM:List Par:= [.pt tA (.pr .fz (.pr (.pr .fz .fz) (.pr (.ow (.pr (.ow .fz) (.pr (.ow (.pr .fz .fz)) (.pr .fz (.ow .fz))))) (.pr .fz (.pr .fz (.pr .fz (.pr .fz (.pr .fz (.pr (.ow (.pr .fz .fz)) (.pr .fz (.pr .fz .fz)))))))))))]
abbrev yoJ:List OT:= [⟨false,tI,.fz⟩]
def yr6 (a0:dA):Option (zaY yoJ×zak yjM) :=bnd (ykn a0 a0.2.2.2.2.1) fun r1 =>bif(!r1.1.2.1)then some ((5,()),(a0,())) else let r2:=ybK a0.2.2.2.2.1;bif(inb a0.2.2.2.1 r1.1.1.length)then bnd (yfh a0 a0.2.2.2.1 r2 ([(nth r1.1.1 a0.2.2.2.1 0)]:List Int)) fun r3 =>bif r3.2.1.2.2.2.2.2.2.2.2.2.2.1 then some ((6,()),(r3.2.1,())) else some ((0,()),((r3.2.1.1,r3.2.1.2.1,r3.2.1.2.2.1,r3.2.1.2.2.2.1,(i64.wrap (r3.2.1.2.2.2.2.1+1)),r3.2.1.2.2.2.2.2),())) else none
theorem yRf:ConOk prog 204 ⟨yjM,yoJ,fun x=>yr6 x.1⟩:=zkG (yMV) func204 ntmps204.symm fun x=>by kernel_rfl
def yoZ (a0:dA):Int×dA:=yfC a0
def ykp (a0:dA):Bool:=yd a0.2.1&&(inb a0.2.2.2.1 a0.2.2.1.length&&inb a0.2.2.2.1 a0.2.1.1.toNat)
theorem yUn (a0:dA) (hk:zjw yjM (a0,())) (hq:ykp a0=true):yr6 a0=(fun n=>some ((n.1,()),(n.2,()))) (yoZ a0):=by
 simp only[ykp,Bool.and_eq_true]at hq;unfold yr6 yoZ yfC;rw[yFW a0 a0.2.2.2.2.1 hq.1];simp only[zkF,ygF,ygH];cases hw:(yS a0 a0.2.2.2.2.1).2
 ·rfl
 ·rw[yLF hw,hq.2.2,ylL a0 a0.2.2.2.1 (yA a0.2.2.2.2.1) [nth (yS a0 a0.2.2.2.2.1).1 a0.2.2.2.1 0] hq.2.1]
  simp only[zkF,ynS,Bool.not_true,cond_false,cond_true];show(bif ya (yaE a0)then some ((6,()),(yaE a0,()))else some ((0,()),(y3X (yaE a0),())))=_;cases ya (yaE a0)<;>rfl
def ykm (a0:dA):Option (zaY yoJ×zak yjM):=bif ykp a0 then(fun n=>some ((n.1,()),(n.2,()))) (yoZ a0)else none
theorem yVv (a0:dA) (h:ykp a0=true):ykm a0=(fun n=>some ((n.1,()),(n.2,()))) (yoZ a0):=by unfold ykm; rw[h]; rfl
def yDs:Con:=⟨yjM,yoJ,fun x=>ykm x.1⟩
theorem yVo:ConOk prog 204 yDs:=(yRf).mono (fun x r hk h=>zkW h (fun hq=>yUn x.1 hk hq))
def yZv:Code:=(f163.body).getD .skip
def yZ2:Env:=zku TT [(72,ya0),(83,yFw),(108,yDr),(112,yAV),(113,yfs),(117,yG9),(118,yHb),(119,ymX),(120,yFv),(171,yry),(179,yrz),(203,yAY),(204,yDs)] []
theorem yPS:FrOk prog ⟨yZ2,160,fun _=>none⟩ yZv:=zky yf yg ⟨ycf,yX7,yVn,yRA,yko,y0F,y0H,yw1,yX6,yFU,yFV,yRD,yVo,trivial⟩
abbrev yr:List Par:= [.pt tU .fz,.pt tA (.pr .fz (.pr (.pr .fz .fz) (.pr (.ow (.pr (.ow .fz) (.pr (.ow (.pr .fz .fz)) (.pr .fz (.ow .fz))))) (.pr .fz (.pr .fz (.pr .fz (.pr .fz (.pr .fz (.pr (.ow (.pr .fz .fz)) (.pr .fz (.pr .fz .fz)))))))))))]
abbrev yu:List OT:= []
def yfB (a0:dU) (a1:dA):Option (zaY yu×zak yr) :=bnd (yn a0 14) fun r1 =>let k1:Option (zaY yu×zak yr) :=bnd (ych r1.2.1 3) fun r9 =>bif r9.1.1 then bif(a1.2.2.2.1==(-1))then bnd (yn r9.2.1 a1.2.1.1) fun r10 =>bnd (ykl a1 r10.1.1) fun r11 =>some ((),(r10.2.1,r11.2.1,())) else some ((),(r9.2.1,a1,())) else some ((),(r9.2.1,a1,()));let k2:Option (zaY yu×zak yr) :=bif(inb a1.2.2.2.1 a1.2.2.1.length)then bif(((nth a1.2.2.1 a1.2.2.2.1 ([],[],false,[])).2).2).1 then bnd (yi4 a1) fun r12 =>some ((),(r1.2.1,r12.2.1,())) else some ((),(r1.2.1,a1,())) else none;let k3:Option (zaY yu×zak yr) :=bif(leb 0 a1.2.2.2.1)then k2 else some ((),(r1.2.1,a1,()));let k4:Option (zaY yu×zak yr) :=bif(inb a1.2.2.2.1 a1.2.2.1.length)then bif(!((((nth a1.2.2.1 a1.2.2.2.1 ([],[],false,[])).2).2).1))then bif(ltb a1.2.2.2.2.1 a1.2.1.2)then bnd (ykm a1) fun r13 =>some ((),(r1.2.1,r13.2.1,())) else some ((),(r1.2.1,a1,())) else some ((),(r1.2.1,a1,())) else none;let k5:Option (zaY yu×zak yr) :=bif(leb 0 a1.2.2.2.1)then k4 else some ((),(r1.2.1,a1,()));let k6:Option (zaY yu×zak yr) :=bnd (ych r1.2.1 3) fun r15 =>bif r15.1.1 then bnd (yn r15.2.1 a1.2.1.1) fun r16 =>bif(inb r16.1.1 a1.2.2.1.length)then bnd (yn r16.2.1 a1.2.1.2) fun r17 =>let r18:=ybK r17.1.1;let r19:=ym3 ((nth a1.2.2.1 r16.1.1 ([],[],false,[])).1,((nth a1.2.2.1 r16.1.1 ([],[],false,[])).2).1,(((nth a1.2.2.1 r16.1.1 ([],[],false,[])).2).2)) r18;bif(inb r16.1.1 a1.2.2.1.length)then some ((),(r17.2.1,(a1.1,a1.2.1,(a1.2.2.1.set (r16.1.1).toNat r19),a1.2.2.2),())) else none else none else some ((),(r15.2.1,a1,()));let k7:Option (zaY yu×zak yr) :=bif(a1.2.2.2.1==(-1))then k6 else some ((),(r1.2.1,a1,()));let k8:Option (zaY yu×zak yr) :=bif(r1.1.1==12)then let r14:=ygG a1;some ((),(r1.2.1,r14,())) else k7;let k9:Option (zaY yu×zak yr) :=bif(r1.1.1==10)then k5 else k8;let k10:Option (zaY yu×zak yr) :=bif(r1.1.1==11)then k5 else k8;let k11:Option (zaY yu×zak yr) :=bif(r1.1.1==10)then k9 else k10;let k12:Option (zaY yu×zak yr) :=bif(r1.1.1==9)then k3 else k11;let k13:Option (zaY yu×zak yr) :=bif(r1.1.1==8)then k1 else k12;let k14:Option (zaY yu×zak yr) :=bif(r1.1.1==7)then bnd (ynT a1) fun r8 =>some ((),(r1.2.1,r8.2.1,())) else k13;let k15:Option (zaY yu×zak yr) :=bif(r1.1.1==4)then bnd (yn r1.2.1 a1.2.1.2) fun r6 =>bnd (yc7 a1 r6.1.1) fun r7 =>some ((),(r6.2.1,r7.2.1,())) else k14;let k16:Option (zaY yu×zak yr) :=bif(r1.1.1==5)then bnd (yn r1.2.1 a1.2.1.2) fun r27 =>bnd (yc7 a1 r27.1.1) fun r28 =>some ((),(r27.2.1,r28.2.1,())) else k14;let k17:Option (zaY yu×zak yr) :=bif(r1.1.1==6)then bnd (yn r1.2.1 a1.2.1.2) fun r48 =>bnd (yc7 a1 r48.1.1) fun r49 =>some ((),(r48.2.1,r49.2.1,())) else k14;let k18:Option (zaY yu×zak yr) :=bif(r1.1.1==5)then k16 else k17;let k19:Option (zaY yu×zak yr) :=bif(r1.1.1==4)then k15 else k18;bif(r1.1.1==0)then bif(r1.1.1==0)then let r2:=yq a1.2.1;bnd (yn r1.2.1 r2) fun r3 =>bnd (ybo r3.2.1) fun r4 =>bnd (yfi a1 r3.1.1 r4.1.1) fun r5 =>some ((),(r4.2.1,r5.2.1,())) else k19 else bif(r1.1.1==1)then bif(r1.1.1==1)then let r69:=yq a1.2.1;bnd (yn r1.2.1 r69) fun r70 =>bnd (ybo r70.2.1) fun r71 =>bnd (yfi a1 r70.1.1 r71.1.1) fun r72 =>some ((),(r71.2.1,r72.2.1,())) else k19 else bif(r1.1.1==2)then bif(r1.1.1==2)then let r136:=yq a1.2.1;bnd (yn r1.2.1 r136) fun r137 =>bnd (ybo r137.2.1) fun r138 =>bnd (yfi a1 r137.1.1 r138.1.1) fun r139 =>some ((),(r138.2.1,r139.2.1,())) else k19 else bif(r1.1.1==3)then let r203:=yq a1.2.1;bnd (yn r1.2.1 r203) fun r204 =>bnd (ybo r204.2.1) fun r205 =>bnd (yfi a1 r204.1.1 r205.1.1) fun r206 =>some ((),(r205.2.1,r206.2.1,())) else k19
theorem yU4:ConOk prog 163 ⟨yr,yu,fun x=>yfB x.1 x.2.1⟩:=zkG (yPS) func163 ntmps163.symm fun x=>by kernel_rfl
def yul:Con:=⟨yr,yu,fun x=>yfB x.1 x.2.1⟩
theorem yHz:ConOk prog 163 yul:=yU4
def yxJ (a:dA) (z:Option (zaY yu×zak yr)):Prop:= ∃(u':dU) (a':dA),z=some ((),(u',a',()))∧ycA u'∧Turned a a'
def y2P (u:dU) (a:dA):Option (zaY yu×zak yr) :=bnd (yn u (yq a.2.1)) fun r3=>bnd (ybo r3.2.1) fun r4=>bnd (yfi a r3.1.1 r4.1.1) fun r5=>some ((),(r4.2.1,r5.2.1,()))
def yYV (u:dU) (a:dA):Option (zaY yu×zak yr) :=bnd (yn u a.2.1.2) fun r6=>bnd (yc7 a r6.1.1) fun r7=>some ((),(r6.2.1,r7.2.1,()))
def y1S (u:dU) (a:dA):Option (zaY yu×zak yr) :=bnd (ych u 3) fun r9=>bif r9.1.1 then(bif(a.2.2.2.1==(-1))then(bnd (yn r9.2.1 a.2.1.1) fun r10=>bnd (ykl a r10.1.1) fun r11=>some ((),(r10.2.1,r11.2.1,())))else some ((),(r9.2.1,a,())))else some ((),(r9.2.1,a,()))
def yYW (u:dU) (a:dA):Option (zaY yu×zak yr) :=bif leb 0 a.2.2.2.1 then(bif inb a.2.2.2.1 a.2.2.1.length then(bif(nth a.2.2.1 a.2.2.2.1 yc).2.2.1 then(bnd (yi4 a) fun r12=>some ((),(u,r12.2.1,())))else some ((),(u,a,())))else none)else some ((),(u,a,()))
def y1T (u:dU) (a:dA):Option (zaY yu×zak yr) :=bif leb 0 a.2.2.2.1 then(bif inb a.2.2.2.1 a.2.2.1.length then(bif !(nth a.2.2.1 a.2.2.2.1 yc).2.2.1 then(bif ltb a.2.2.2.2.1 a.2.1.2 then(bnd (ykm a) fun r13=>some ((),(u,r13.2.1,())))else some ((),(u,a,())))else some ((),(u,a,())))else none)else some ((),(u,a,()))
def yLC (u:dU) (a:dA):Option (zaY yu×zak yr) :=bif(a.2.2.2.1==(-1))then(bnd (ych u 3) fun r15=>bif r15.1.1 then(bnd (yn r15.2.1 a.2.1.1) fun r16=>bif inb r16.1.1 a.2.2.1.length then(bnd (yn r16.2.1 a.2.1.2) fun r17 =>bif inb r16.1.1 a.2.2.1.length then some ((),(r17.2.1,ybp a r16.1.1 (spoil (nth a.2.2.1 r16.1.1 yc) (yA r17.1.1)),()))else none)else none)else some ((),(r15.2.1,a,())))else some ((),(u,a,()))
theorem yIy {u:dU} {a:dA} (h:yT a) (hk:yI a) (hu:ycA u):yxJ a (y2P u a):=by
 have hg:=yl.1 h.1;have hd:=yxY h.2.2.1 h.1;obtain⟨b,u1,e1,q1,d1⟩:=ycV u (yq a.2.1) hu;obtain⟨x,u2,e2,q2,d2⟩:=y4X u1 d1;have hx:isW x=true:=by rw[ybM]at q2; exact q2
 have hbl:0<yq a.2.1:=by
  rw[yxr h.1];exact Int.mul_pos (by omega) (by omega)
 have hb:yeP a.2.1 b=true:=by
  have:=q1.2.1 hbl;unfold yeP;rw[zk0 q1.1,zk0 (show b≤yq a.2.1-1 by omega)]; rfl
 unfold y2P;rw[e1,zkF,e2,zkF,y0K a b x (by unfold ynV; rw[yB2.2 ⟨h,hk⟩,hb]; exact decide_eq_true (show a.2.2.2.2.2.2.2.2.1.length≤1000 by omega)),zkF];exact⟨_,_,rfl,d2,.put b x hb hx⟩
theorem yIx {u:dU} {a:dA} (h:yT a) (hu:ycA u):yxJ a (yYV u a):=by
 have hd:=yxY h.2.2.1 h.1;obtain⟨s,u1,e1,q1,d1⟩:=ycV u a.2.1.2 hu;unfold yYV;rw[e1,zkF,yFX a s (decide_eq_true (show a.2.2.2.2.2.2.2.2.1.length≤1000 by omega)),zkF];exact⟨_,_,rfl,d1,.flush s⟩
theorem y4H {u:dU} {a:dA} (h:yT a) (hu:ycA u):yxJ a (bnd (ynT a) fun r8=>some ((),(u,r8.2.1,()))):=by
 have hd:=yxY h.2.2.1 h.1;rw[y0I a (decide_eq_true (show a.2.2.2.2.2.2.2.2.1.length≤1000 by omega)),zkF];exact⟨_,_,rfl,hu,.all⟩
theorem y31 {u:dU} {a:dA} (h:yT a) (hk:yI a) (hu:ycA u):yxJ a (y1S u a):=by
 have hg:=yl.1 h.1;have hl:=hk.1.2;obtain⟨r,u1,e1,d1⟩:=y2r u 3 hu;unfold y1S;rw[e1,zkF];cases r
 ·exact⟨_,_,rfl,d1,.same⟩
 ·cases h1:(a.2.2.2.1==(-1))
  ·exact⟨_,_,rfl,d1,.same⟩
  ·obtain⟨m,u2,e2,q2,d2⟩:=ycV u1 a.2.1.1 d1
   have hm:inb m a.2.2.1.length=true:=zj4.2 ⟨q2.1,by have:=q2.2.1 (by omega); omega⟩;simp only[cond_true];rw[e2,zkF,yVu a m hm,zkF];exact⟨_,_,rfl,d2,.fail m (beq_iff_eq.1 h1) hm⟩
theorem y3q {u:dU} {a:dA} (h:yT a) (hk:yI a) (hu:ycA u):yxJ a (yYW u a):=by
 have hl:=hk.1.2;have hc:=h.2.2.2.1;unfold yYW;cases h0:leb 0 a.2.2.2.1
 ·exact⟨_,_,rfl,hu,.same⟩
 ·have hi:inb a.2.2.2.1 a.2.2.1.length=true:=zj4.2 ⟨zj5.1 h0,by omega⟩
  rw[hi];cases hf:(nth a.2.2.1 a.2.2.2.1 yc).2.2.1
  ·exact⟨_,_,rfl,hu,.same⟩
  ·simp only[cond_true]
   rw[yRH a (by unfold yi7; rw[h.1,hi]; rfl),zkF];exact⟨_,_,rfl,hu,.spare hi hf⟩
theorem yYX {u:dU} {a:dA} (h:yT a) (hk:yI a) (hu:ycA u):yxJ a (y1T u a):=by
 have hl:=hk.1.2;have hc:=h.2.2.2.1;unfold y1T;cases h0:leb 0 a.2.2.2.1
 ·exact⟨_,_,rfl,hu,.same⟩
 ·have h0':=zj5.1 h0
  have hi:inb a.2.2.2.1 a.2.2.1.length=true:=zj4.2 ⟨h0',by omega⟩;rw[hi];cases hf:(nth a.2.2.1 a.2.2.2.1 yc).2.2.1
  ·cases hb:ltb a.2.2.2.2.1 a.2.1.2
   ·exact⟨_,_,rfl,hu,.same⟩
   ·simp only[cond_true,Bool.not_false]
    rw[yVv a (by unfold ykp; rw[h.1,hi,zj4.2 (show 0≤a.2.2.2.1∧a.2.2.2.1<a.2.1.1.toNat by omega)]; rfl),zkF];exact⟨_,_,rfl,hu,.step hi hf (zj8.1 hb)⟩
  ·exact⟨_,_,rfl,hu,.same⟩
theorem y3r {u:dU} {a:dA} (h:yT a) (hk:yI a) (hu:ycA u):yxJ a (yLC u a):=by
 have hg:=yl.1 h.1;have hl:=hk.1.2;unfold yLC;cases hlo:(a.2.2.2.1==(-1))
 ·exact⟨_,_,rfl,hu,.same⟩
 ·obtain⟨r,u1,e1,d1⟩:=y2r u 3 hu
  simp only[cond_true];rw[e1,zkF];cases r
  ·exact⟨_,_,rfl,d1,.same⟩
  ·obtain⟨m,u2,e2,q2,d2⟩:=ycV u1 a.2.1.1 d1
   have hm:inb m a.2.2.1.length=true:=zj4.2 ⟨q2.1,by have:=q2.2.1 (by omega); omega⟩;obtain⟨s,u3,e3,q3,d3⟩:=ycV u2 a.2.1.2 d2;simp only[cond_true];rw[e2,zkF];simp only[hm,cond_true];rw[e3,zkF];exact⟨_,_,rfl,d3,.spoil m s (beq_iff_eq.1 hlo) hm q3.1 (q3.2.1 (by omega))⟩
theorem y2t (u:dU) (a:dA) (hu:ycA u) (h:yT a) (hk:yI a):yxJ a (yfB u a):=by
 obtain⟨r,u1,e1,q1,d1⟩:=ycV u 14 hu;have hr:=q1.2.1 (by omega);have h0:=q1.1;unfold yfB;rw[e1,zkF];have hc:(r=0∨r=1∨r=2∨r=3)∨(r=4∨r=5∨r=6)∨r=7∨r=8∨r=9∨(r=10∨r=11)∨r=12∨r=13:=by omega
 rcases hc with(rfl | rfl | rfl | rfl) | (rfl | rfl | rfl) | rfl | rfl | rfl | (rfl | rfl) | rfl | rfl
 ·exact yIy h hk d1
 ·exact yIy h hk d1
 ·exact yIy h hk d1
 ·exact yIy h hk d1
 ·exact yIx h d1
 ·exact yIx h d1
 ·exact yIx h d1
 ·exact y4H h d1
 ·exact y31 h hk d1
 ·exact y3q h hk d1
 ·exact yYX h hk d1
 ·exact yYX h hk d1
 ·refine⟨u1,yp a,?_,d1,.check⟩
  rw[← yIP]; rfl
 ·have:=y3r h hk d1
  unfold yLC at this;simp only[← ygH]at this;exact this
def yqH:Code:=(f124.body).getD .skip
def yy3:Env:=zku TT [(72,ya0),(115,yFq),(116,yG7),(163,yul)] []
theorem yPN:FrOk prog ⟨yy3,24,fun _=>none⟩ yqH:=zky yf yg ⟨ycf,yX1,y0D,yHz,trivial⟩
def yEW:Nat→Option Seg:=fun _=>none
def ycS:Shape:=⟨[(0,false,[.ptr 1000000000 0]),(4,false,[.ptr 0 0]),(5,false,[.ptr 4480 0]),(6,false,[.int .i64])],[(0,[.int .i64,.int .i64,.int .i64,.nil,.int .i64,.int .i64,.int .i64,.int .i64,.int .i64,.nil,.int .i64,.bool,.bool]),(4480,[.int .i64,.int .i64,.int .i64,.at 800000000,.int .i64,.int .i64,.int .i64,.int .i64,.int .i64,.at 800000001,.int .i64,.bool,.bool]),(1000000000,[.fz tY,.int .i64,.int .i64])],[(800000000,tM,(.pr (.ow .fz) (.pr (.ow (.pr .fz .fz)) (.pr .fz (.ow .fz))))),(800000001,tW,(.pr .fz .fz))]⟩
def yg7:Shape:=⟨[(0,false,[.ptr 1000000000 0]),(4,false,[.ptr 0 0]),(5,false,[.ptr 4480 0]),(6,false,[.int .i64])],[(0,[.int .i64,.int .i64,.int .i64,.nil,.int .i64,.int .i64,.int .i64,.int .i64,.int .i64,.nil,.int .i64,.bool,.bool]),(4480,[.int .i64,.int .i64,.int .i64,.at 800000000,.int .i64,.int .i64,.int .i64,.int .i64,.int .i64,.at 800000001,.int .i64,.bool,.bool]),(1000000000,[.fz tY,.int .i64,.int .i64])],[(800000000,tM,(.pr (.ow .fz) (.pr (.ow (.pr .fz .fz)) (.pr .fz (.ow .fz))))),(800000001,tW,(.pr .fz .fz))]⟩
def ygW:Shape:=⟨[(4,false,[.ptr 0 0]),(5,false,[.ptr 4480 0])],[(0,[.int .i64,.int .i64,.int .i64,.nil,.int .i64,.int .i64,.int .i64,.int .i64,.int .i64,.nil,.int .i64,.bool,.bool]),(4480,[.int .i64,.int .i64,.int .i64,.at 800000000,.int .i64,.int .i64,.int .i64,.int .i64,.int .i64,.at 800000001,.int .i64,.bool,.bool]),(1000000000,[.fz tY,.int .i64,.int .i64])],[(800000000,tM,(.pr (.ow .fz) (.pr (.ow (.pr .fz .fz)) (.pr .fz (.ow .fz))))),(800000001,tW,(.pr .fz .fz))]⟩
def ykT:Shape:=⟨[],[],[]⟩
abbrev ypJ (v0:Int) (v1 v2:dA) (v3:dU):(ycS).X:=((((),()),((),()),((),()),(v0,()),()),((v1.1,v1.2.1.1,v1.2.1.2,(),v1.2.2.2.1,v1.2.2.2.2.1,v1.2.2.2.2.2.1,v1.2.2.2.2.2.2.1,v1.2.2.2.2.2.2.2.1,(),v1.2.2.2.2.2.2.2.2.2.1,v1.2.2.2.2.2.2.2.2.2.2.1,v1.2.2.2.2.2.2.2.2.2.2.2,()),(v2.1,v2.2.1.1,v2.2.1.2,(),v2.2.2.2.1,v2.2.2.2.2.1,v2.2.2.2.2.2.1,v2.2.2.2.2.2.2.1,v2.2.2.2.2.2.2.2.1,(),v2.2.2.2.2.2.2.2.2.2.1,v2.2.2.2.2.2.2.2.2.2.2.1,v2.2.2.2.2.2.2.2.2.2.2.2,()),(v3.1,v3.2.1,v3.2.2,()),()),(v2.2.2.1,v2.2.2.2.2.2.2.2.2.1,()))
abbrev yNl (v0:Int) (v1 v2:dA) (v3:dU):(yg7).X:=((((),()),((),()),((),()),(v0,()),()),((v1.1,v1.2.1.1,v1.2.1.2,(),v1.2.2.2.1,v1.2.2.2.2.1,v1.2.2.2.2.2.1,v1.2.2.2.2.2.2.1,v1.2.2.2.2.2.2.2.1,(),v1.2.2.2.2.2.2.2.2.2.1,v1.2.2.2.2.2.2.2.2.2.2.1,v1.2.2.2.2.2.2.2.2.2.2.2,()),(v2.1,v2.2.1.1,v2.2.1.2,(),v2.2.2.2.1,v2.2.2.2.2.1,v2.2.2.2.2.2.1,v2.2.2.2.2.2.2.1,v2.2.2.2.2.2.2.2.1,(),v2.2.2.2.2.2.2.2.2.2.1,v2.2.2.2.2.2.2.2.2.2.2.1,v2.2.2.2.2.2.2.2.2.2.2.2,()),(v3.1,v3.2.1,v3.2.2,()),()),(v2.2.2.1,v2.2.2.2.2.2.2.2.2.1,()))
abbrev yNc (v0 v1:dA) (v2:dU):(ygW).X:=((((),()),((),()),()),((v0.1,v0.2.1.1,v0.2.1.2,(),v0.2.2.2.1,v0.2.2.2.2.1,v0.2.2.2.2.2.1,v0.2.2.2.2.2.2.1,v0.2.2.2.2.2.2.2.1,(),v0.2.2.2.2.2.2.2.2.2.1,v0.2.2.2.2.2.2.2.2.2.2.1,v0.2.2.2.2.2.2.2.2.2.2.2,()),(v1.1,v1.2.1.1,v1.2.1.2,(),v1.2.2.2.1,v1.2.2.2.2.1,v1.2.2.2.2.2.1,v1.2.2.2.2.2.2.1,v1.2.2.2.2.2.2.2.1,(),v1.2.2.2.2.2.2.2.2.2.1,v1.2.2.2.2.2.2.2.2.2.2.1,v1.2.2.2.2.2.2.2.2.2.2.2,()),(v2.1,v2.2.1,v2.2.2,()),()),(v1.2.2.1,v1.2.2.2.2.2.2.2.2.1,()))
def yqh (v0 v1 v2 v3 v4 v5 v6 v7 v8 v9:Int) (v10 v11:Bool) (v12 v13 v14 v15 v16 v17 v18 v19 v20:Int) (v21 v22:Bool) (v23:List Int) (v24 v25:Int) (v26:List dM) (v27:List dW):Option ((ycS).X ⊕ ((ygW).X ⊕ (ykT).X)) :=bif(ltb 0 v0)then bnd (yfB (v23,v24,v25) (v12,(v13,v14),v26,v15,v16,v17,v18,v19,v27,v20,v21,v22)) fun r6 =>some (.inl ((((),()),((),()),((),()),((i64.wrap (v0-1)),()),()),((v1,v2,v3,(),v4,v5,v6,v7,v8,(),v9,v10,v11,()),(r6.2.2.1.1,r6.2.2.1.2.1.1,r6.2.2.1.2.1.2,(),r6.2.2.1.2.2.2.1,r6.2.2.1.2.2.2.2.1,r6.2.2.1.2.2.2.2.2.1,r6.2.2.1.2.2.2.2.2.2.1,r6.2.2.1.2.2.2.2.2.2.2.1,(),r6.2.2.1.2.2.2.2.2.2.2.2.2.1,r6.2.2.1.2.2.2.2.2.2.2.2.2.2.1,r6.2.2.1.2.2.2.2.2.2.2.2.2.2.2,()),(r6.2.1.1,r6.2.1.2.1,r6.2.1.2.2,()),()),(r6.2.2.1.2.2.1,r6.2.2.1.2.2.2.2.2.2.2.2.1,()))) else some (.inr (.inl ((((),()),((),()),()),((v1,v2,v3,(),v4,v5,v6,v7,v8,(),v9,v10,v11,()),(v12,v13,v14,(),v15,v16,v17,v18,v19,(),v20,v21,v22,()),(v23,v24,v25,()),()),(v26,v27,()))))
def ydf (x:(ycS).X):=yqh x.1.2.2.2.1.1 x.2.1.1.1 x.2.1.1.2.1 x.2.1.1.2.2.1 x.2.1.1.2.2.2.2.1 x.2.1.1.2.2.2.2.2.1 x.2.1.1.2.2.2.2.2.2.1 x.2.1.1.2.2.2.2.2.2.2.1 x.2.1.1.2.2.2.2.2.2.2.2.1 x.2.1.1.2.2.2.2.2.2.2.2.2.2.1 x.2.1.1.2.2.2.2.2.2.2.2.2.2.2.1 x.2.1.1.2.2.2.2.2.2.2.2.2.2.2.2.1 x.2.1.2.1.1 x.2.1.2.1.2.1 x.2.1.2.1.2.2.1 x.2.1.2.1.2.2.2.2.1 x.2.1.2.1.2.2.2.2.2.1 x.2.1.2.1.2.2.2.2.2.2.1 x.2.1.2.1.2.2.2.2.2.2.2.1 x.2.1.2.1.2.2.2.2.2.2.2.2.1 x.2.1.2.1.2.2.2.2.2.2.2.2.2.2.1 x.2.1.2.1.2.2.2.2.2.2.2.2.2.2.2.1 x.2.1.2.1.2.2.2.2.2.2.2.2.2.2.2.2.1 x.2.1.2.2.1.1 x.2.1.2.2.1.2.1 x.2.1.2.2.1.2.2.1 x.2.2.1 x.2.2.2.1
def yA9 (x:(yg7).X):(ycS).X:=((((),()),((),()),((),()),(x.1.2.2.2.1.1,()),()),((x.2.1.1.1,x.2.1.1.2.1,x.2.1.1.2.2.1,(),x.2.1.1.2.2.2.2.1,x.2.1.1.2.2.2.2.2.1,x.2.1.1.2.2.2.2.2.2.1,x.2.1.1.2.2.2.2.2.2.2.1,x.2.1.1.2.2.2.2.2.2.2.2.1,(),x.2.1.1.2.2.2.2.2.2.2.2.2.2.1,x.2.1.1.2.2.2.2.2.2.2.2.2.2.2.1,x.2.1.1.2.2.2.2.2.2.2.2.2.2.2.2.1,()),(x.2.1.2.1.1,x.2.1.2.1.2.1,x.2.1.2.1.2.2.1,(),x.2.1.2.1.2.2.2.2.1,x.2.1.2.1.2.2.2.2.2.1,x.2.1.2.1.2.2.2.2.2.2.1,x.2.1.2.1.2.2.2.2.2.2.2.1,x.2.1.2.1.2.2.2.2.2.2.2.2.1,(),x.2.1.2.1.2.2.2.2.2.2.2.2.2.2.1,x.2.1.2.1.2.2.2.2.2.2.2.2.2.2.2.1,x.2.1.2.1.2.2.2.2.2.2.2.2.2.2.2.2.1,()),(x.2.1.2.2.1.1,x.2.1.2.2.1.2.1,x.2.1.2.2.1.2.2.1,()),()),(x.2.2.1,x.2.2.2.1,()))
def yDb:Code:=(zeJ yqH 64 116).getD .skip
theorem yOY:zeJ yqH 64 29=some (.block 0 (.loop yDb)):=by kernel_rfl
theorem yRS (x:(ycS).X):zhu ⟨yy3,24,yEW⟩ 0 yDb 116 ycS ygW ykT x=ydf x:=by kernel_rfl
def yBk (x:(yg7).X):Nat:=18446744073709551616
def yrp (x:(yg7).X):Option ((ygW).X ⊕ (ykT).X):=zF ydf (yBk x) (yA9 x)
def yBJ:Seg:=⟨yg7,ygW,ykT,yrp⟩
def ySq:Nat→Option Seg:=fun q=>bif Nat.beq q 29 then some yBJ else yEW q
theorem yPO:FrOk prog ⟨yy3,24,ySq⟩ yqH:=(yPN).loop (sg:=yBJ) ycS yA9 (by decide) yOY ydf yBk (by decide) (fun _=>rfl) (fun x r _ h=>h) yRS
abbrev yzq:List Par:= [.pt tU .fz,.rd tI]
abbrev yzX:List OT:= [⟨false,tA,(.pr .fz (.pr (.pr .fz .fz) (.pr (.ow (.pr (.ow .fz) (.pr (.ow (.pr .fz .fz)) (.pr .fz (.ow .fz))))) (.pr .fz (.pr .fz (.pr .fz (.pr .fz (.pr .fz (.pr (.ow (.pr .fz .fz)) (.pr .fz (.pr .fz .fz)))))))))))⟩]
def yfA (a0:dU) (a1:Int):Option (zaY yzX×zak yzq) :=bnd (yn a0 2) fun r1 =>bnd (yks r1.2.1) fun r2 =>let r3:=ylC (i64.wrap (1+r1.1.1)) r2.1.1;bnd (yn r2.2.1 (i64.wrap (a1+1))) fun r4 =>zkr (yrp ((((),()),((),()),((),()),(r4.1.1,()),()),((0,0,0,(),0,0,0,0,0,(),0,false,false,()),(r3.1,r3.2.1.1,r3.2.1.2,(),r3.2.2.2.1,r3.2.2.2.2.1,r3.2.2.2.2.2.1,r3.2.2.2.2.2.2.1,r3.2.2.2.2.2.2.2.1,(),r3.2.2.2.2.2.2.2.2.2.1,r3.2.2.2.2.2.2.2.2.2.2.1,r3.2.2.2.2.2.2.2.2.2.2.2,()),(r4.2.1.1,r4.2.1.2.1,r4.2.1.2.2,()),()),(r3.2.2.1,r3.2.2.2.2.2.2.2.2.1,()))) (fun y6 =>some (((y6.2.1.2.1.1,(y6.2.1.2.1.2.1,y6.2.1.2.1.2.2.1),y6.2.2.1,y6.2.1.2.1.2.2.2.2.1,y6.2.1.2.1.2.2.2.2.2.1,y6.2.1.2.1.2.2.2.2.2.2.1,y6.2.1.2.1.2.2.2.2.2.2.2.1,y6.2.1.2.1.2.2.2.2.2.2.2.2.1,y6.2.2.2.1,y6.2.1.2.1.2.2.2.2.2.2.2.2.2.2.1,y6.2.1.2.1.2.2.2.2.2.2.2.2.2.2.2.1,y6.2.1.2.1.2.2.2.2.2.2.2.2.2.2.2.2.1),()),((y6.2.1.2.2.1.1,y6.2.1.2.2.1.2.1,y6.2.1.2.2.1.2.2.1),()))) (fun y6 =>none)
theorem yU1:ConOk prog 124 ⟨yzq,yzX,fun x=>yfA x.1 x.2.1⟩:=zkG (yPO) func124 ntmps124.symm fun x=>by kernel_rfl
def yuk:Con:=⟨yzq,yzX,fun x=>yfA x.1 x.2.1⟩
theorem yHy:ConOk prog 124 yuk:=yU1
theorem yYD {P:Int→dA→Prop} {K:Int} (hP: ∀k a,P k a→yT a∧yI a) (hT: ∀k a b,P k a→Turned a b→k+16≤K→P (k+16) b): ∀(n:Nat) (k:Int) (a:dA) (u:dU) (fuel:Nat),n<fuel→n≤1000→ycA u→P k a→k+16*n≤K →
  ∃(a':dA) (u':dU),zF ydf fuel (ypJ n yaD a u)=some (.inl (yNc yaD a' u'))∧ycA u'∧P (k+16*n) a'
 | 0,k,a,u,fuel+1,_,_,hu,h,_=>⟨a,u,by simp only[zF,ydf,ypJ,yqh]; rfl,hu,by rw[show k+16*((0:Nat):Int)=k by omega]; exact h⟩
 | n+1,k,a,u,fuel+1,hf,hn,hu,h,hk=>by
  obtain⟨hc,hkp⟩:=hP k a h;obtain⟨u1,a1,e1,d1,h1⟩:=y2t u a hu hc hkp;obtain⟨a',u',e2,d2,h2⟩:=yYD hP hT n (k+16) a1 u1 fuel (by omega) (by omega) d1 (hT k a a1 h h1 (by omega)) (by omega);refine⟨a',u',?_,d2,by rw[show k+16*((n+1:Nat):Int)=k+16+16*(n:Int)by omega]; exact h2⟩;rw[← e2,zF];simp only[ydf,ypJ,yqh,zkw (show(0:Int)<((n+1:Nat):Int)by omega),cond_true,zkV,e1,zkF,show((n+1:Nat):Int)-1=(n:Int)by omega,wq ((n:Int)) (by omega) (by omega)]
theorem yS7 {P:Int→dA→Prop} {K:Int} (hP: ∀k a,P k a→yT a∧yI a) (hT: ∀k a b,P k a→Turned a b→k+16≤K→P (k+16) b) (h0P: ∀id g,yd g=true→1≤id→id≤60000→P 0 (yer id g))
  (u:dU) (most:Int) (h:ycA u) (h0:0≤most) (h1:most≤1000) (hm:16*most≤K): ∃(a:dA) (u':dU) (k:Int),yfA u most=some ((a,()),(u',()))∧P k a∧k≤16*most∧ycA u':=by
 obtain⟨r1,u1,e1,q1,d1⟩:=ycV u 2 h;obtain⟨g,u2,e2,q2,d2⟩:=y4k u1 d1;obtain⟨r3,u3,e3,q3,d3⟩:=ycV u2 (most+1) d2;have:=q1.1; have:=q1.2.1 (by omega); have:=q3.1; have:=q3.2.1 (by omega);have hn:=h0P (1+r1) g q2 (by omega) (by omega);obtain⟨a',u',e4,d4,h4⟩:=yYD hP hT r3.toNat 0 (yer (1+r1) g) u3 18446744073709551616 (by omega) (by omega) d3 hn (by omega);rw[show((r3.toNat:Nat):Int)=r3 by omega]at e4;unfold yfA;simp only[e1,e2,zkF,wq (most+1) (by omega) (by omega),e3,wq (1+r1) (by omega) (by omega),ylC];refine⟨a',u',_,?_,h4,by omega,d4⟩;exact(congrArg (fun z=>zkr z _ _) (show yrp (yNl r3 yaD (yer (1+r1) g) u3)=_ from e4)).trans rfl
def yVZ:Code:=(f52.body).getD .skip
def yWq:Env:=zku TT [(69,ywU),(71,yuj),(124,yuk)] []
theorem yMO:FrOk prog ⟨yWq,11,fun _=>none⟩ yVZ:=zky yf yg ⟨yIL,yHx,yHy,trivial⟩
abbrev ywp:List Par:= [.kp tYs .fz]
abbrev ywH:List OT:= [⟨false,tA,(.pr .fz (.pr (.pr .fz .fz) (.pr (.ow (.pr (.ow .fz) (.pr (.ow (.pr .fz .fz)) (.pr .fz (.ow .fz))))) (.pr .fz (.pr .fz (.pr .fz (.pr .fz (.pr .fz (.pr (.ow (.pr .fz .fz)) (.pr .fz (.pr .fz .fz)))))))))))⟩]
def yht (a0:List Int):Option (zaY ywH×zak ywp) :=let r1:=yhl a0;let r2:=ya6 a0 24;bnd (yfA r1 (i64.wrap (6+r2))) fun r3 =>some ((r3.1.1,()),())
theorem yQ9:ConOk prog 52 ⟨ywp,ywH,fun x=>yht x.1⟩:=zkG (yMO) func52 ntmps52.symm fun x=>by kernel_rfl
def yDm:Con:=⟨ywp,ywH,fun x=>yht x.1⟩
theorem yVi:ConOk prog 52 yDm:=yQ9
theorem y19 (a0:List Int) (hb:a0.length≤140737488355328): ∃(a:dA) (V:Int→Int→Int),yht a0=some ((a,()),())∧Wk 480 a∧Lv 480 V a:=by
 obtain⟨h1,h2⟩:=y2s a0 24 (by omega) hb
 obtain⟨a,u',k,e,⟨q1,V,q2⟩,hk,d⟩:=yS7 (P:=fun k a=>Wk k a∧ ∃V,Lv k V a) (K:=480) (fun k a h=>⟨h.1.1,h.1.2.1⟩)
  (fun k a b h ht hk=>by
   obtain⟨hw,V,hi⟩:=h;have hw':=yYZ hw ht (by omega)
   exact⟨ydi hw' (by omega),(yKF hi ht (by omega)).1 hw'.2.2.1.1⟩) (fun id g g1 g2 g3=>⟨y1X g1 g2 g3,_,y3N g1 g2 g3⟩) _ (6+ya6 a0 24) (y3D a0 hb) (by omega) (by omega) (by omega)
 refine⟨a,V,?_,ydi q1 (by omega),ysB q2 (by omega)⟩;unfold yht;simp only[wq (6+ya6 a0 24) (by omega) (by omega),e,zkF]
def you:Code:=(f79.body).getD .skip
def ywh:Env:=zku TT [(72,ya0),(80,yoR)] []
theorem yM6:FrOk prog ⟨ywh,19,fun _=>none⟩ you:=zky yf yg ⟨ycf,yAd,trivial⟩
def yCk:Nat→Option Seg:=fun _=>none
def yca:Shape:=⟨[(0,false,[.ptr 1000000000 0]),(3,false,[.at 800000000]),(4,false,[.int .i64])],[(1000000000,[.fz tY,.int .i64,.int .i64])],[(800000000,tI,.fz)]⟩
def ygf:Shape:=⟨[(0,false,[.ptr 1000000000 0]),(3,false,[.at 800000000]),(4,false,[.ci .i64 0])],[(1000000000,[.fz tY,.int .i64,.int .i64])],[(800000000,tI,.fz)]⟩
def yf2:Shape:=⟨[(3,false,[.at 800000000])],[(1000000000,[.fz tY,.int .i64,.int .i64])],[(800000000,tI,.fz)]⟩
def yjz:Shape:=⟨[],[],[]⟩
abbrev ynP (v0:Int) (v1:dU) (v2:List Int):(yca).X:=((((),()),((),()),(v0,()),()),((v1.1,v1.2.1,v1.2.2,()),()),(v2,()))
abbrev yK0 (v0:dU) (v1:List Int):(ygf).X:=((((),()),((),()),((),()),()),((v0.1,v0.2.1,v0.2.2,()),()),(v1,()))
abbrev yKN (v0:dU) (v1:List Int):(yf2).X:=((((),()),()),((v0.1,v0.2.1,v0.2.2,()),()),(v1,()))
def yoh (v0:Int) (v1:List Int) (v2 v3:Int) (v4:List Int):Option ((yca).X ⊕ ((yf2).X ⊕ (yjz).X)) :=bif(ltb v0 5)then bnd (yn (v1,v2,v3) 4096) fun r3 =>bnd (yeH r3.2.1 ([0,1,2,3,5,7,1048575,r3.1.1]:List Int)) fun r4 =>bif(zkj v4.length ([r4.1.1]:List Int).length 8)then some (.inl ((((),()),((),()),((i64.wrap (v0+1)),()),()),((r4.2.1.1,r4.2.1.2.1,r4.2.1.2.2,()),()),((v4++([r4.1.1]:List Int)),()))) else none else some (.inr (.inl ((((),()),()),((v1,v2,v3,()),()),(v4,()))))
def ycx (x:(yca).X):=yoh x.1.2.2.1.1 x.2.1.1.1 x.2.1.1.2.1 x.2.1.1.2.2.1 x.2.2.1
def yyd (x:(ygf).X):(yca).X:=((((),()),((),()),(0,()),()),((x.2.1.1.1,x.2.1.1.2.1,x.2.1.1.2.2.1,()),()),(x.2.2.1,()))
def yAI:Code:=(zeJ you 64 116).getD .skip
theorem yMr:zeJ you 64 29=some (.block 0 (.loop yAI)):=by kernel_rfl
theorem yOd (x:(yca).X):zhu ⟨ywh,19,yCk⟩ 0 yAI 116 yca yf2 yjz x=ycx x:=by kernel_rfl
def yyt (x:(ygf).X):Nat:=18446744073709551616
def ypq (x:(ygf).X):Option ((yf2).X ⊕ (yjz).X):=zF ycx (yyt x) (yyd x)
def yyX:Seg:=⟨ygf,yf2,yjz,ypq⟩
def yOL:Nat→Option Seg:=fun q=>bif Nat.beq q 29 then some yyX else yCk q
theorem yM7:FrOk prog ⟨ywh,19,yOL⟩ you:=(yM6).loop (sg:=yyX) yca yyd (by decide) yMr ycx yyt (by decide) (fun _=>rfl) (fun x r _ h=>h) yOd
abbrev ywu:List Par:= [.pt tU .fz]
abbrev ywP:List OT:= [⟨false,tL,(.ow .fz)⟩]
def yhu (a0:dU):Option (zaY ywP×zak ywu) :=zkr (ypq ((((),()),((),()),((),()),()),((a0.1,a0.2.1,a0.2.2,()),()),(([]:List Int),()))) (fun y4 =>some ((y4.2.2.1,()),((y4.2.1.1.1,y4.2.1.1.2.1,y4.2.1.1.2.2.1),()))) (fun y4 =>none)
theorem yRn:ConOk prog 79 ⟨ywu,ywP,fun x=>yhu x.1⟩:=zkG (yM7) func79 ntmps79.symm fun x=>by kernel_rfl
def yDv:Con:=⟨ywu,ywP,fun x=>yhu x.1⟩
theorem yVr:ConOk prog 79 yDv:=yRn
theorem yOh: ∀(n:Nat) (u:dU) (l:List Int) (fuel:Nat),n≤5→n<fuel→ycA u→n+l.length≤1000 →
  ∃(u':dU) (l':List Int),zF ycx fuel (ynP (5-(n:Int)) u l)=some (.inl (yKN u' l'))∧ycA u'∧l'.length=n+l.length
 | 0,u,l,fuel+1,_,_,hu,_=>⟨u,l,by simp only[zF,ycx,ynP,yoh]; rfl,hu,by omega⟩
 | n+1,u,l,fuel+1,hn,hf,hu,hl=>by
  obtain⟨x,u1,e1,_,d1⟩:=ycV u 4096 hu;obtain⟨y,u2,e2,_,d2⟩:=y1j u1 [0,1,2,3,5,7,1048575,x] d1 (by simp);obtain⟨u',l',e3,d3,h3⟩:=yOh n u2 (l++ [y]) fuel (by omega) (by omega) d2 (by rw[List.length_append]; simp only[List.length_cons,List.length_nil]; omega);refine⟨u',l',?_,d3,by rw[h3,List.length_append]; simp only[List.length_cons,List.length_nil]; omega⟩;rw[← e3,zF]
  simp only[ycx,ynP,yoh,zkw (show(5-((n+1:Nat):Int))<5 by omega),cond_true,zkV,e1,e2,zkF,wq ((5-((n+1:Nat):Int))+1) (by omega) (by omega),show(5-((n+1:Nat):Int))+1=5-(n:Int)by omega,wq (5-(n:Int)) (by omega) (by omega),
   zkD.2 (show(l.length+ [y].length)*8≤140737488355328 by simp only[List.length_cons,List.length_nil]; omega)]
theorem y24 (u:dU) (h:ycA u): ∃(l:List Int) (u':dU),yhu u=some ((l,()),(u',()))∧l.length=5∧ycA u':=by
 obtain⟨u',l',e,d,hl⟩:=yOh 5 u [] 18446744073709551616 (by omega) (by omega) h (by simp);unfold yhu;refine⟨l',u',?_,by rw[hl]; rfl,d⟩;exact(congrArg (fun z=>zkr z _ _) (show ypq (yK0 u [])=_ from e)).trans rfl
def ymp:Code:=(f93.body).getD .skip
def ys4:Env:=zku TT [(72,ya0),(80,yoR),(124,yuk),(163,yul)] []
theorem yKy:FrOk prog ⟨ys4,29,fun _=>none⟩ ymp:=zky yf yg ⟨ycf,yAd,yHy,yHz,trivial⟩
def yAt:Nat→Option Seg:=fun _=>none
def ybF:Shape:=⟨[(0,false,[.ptr 1000000000 0]),(4,false,[.ptr 0 0]),(5,false,[.ptr 4288 0]),(6,false,[.int .i64])],[(0,[.int .i64,.int .i64,.int .i64,.nil,.int .i64,.int .i64,.int .i64,.int .i64,.int .i64,.nil,.int .i64,.bool,.bool]),(4288,[.int .i64,.int .i64,.int .i64,.at 800000000,.int .i64,.int .i64,.int .i64,.int .i64,.int .i64,.at 800000001,.int .i64,.bool,.bool]),(1000000000,[.fz tY,.int .i64,.int .i64])],[(800000000,tM,(.pr (.ow .fz) (.pr (.ow (.pr .fz .fz)) (.pr .fz (.ow .fz))))),(800000001,tW,(.pr .fz .fz))]⟩
def ye7:Shape:=⟨[(0,false,[.ptr 1000000000 0]),(4,false,[.ptr 0 0]),(5,false,[.ptr 4288 0]),(6,false,[.int .i64])],[(0,[.int .i64,.int .i64,.int .i64,.nil,.int .i64,.int .i64,.int .i64,.int .i64,.int .i64,.nil,.int .i64,.bool,.bool]),(4288,[.int .i64,.int .i64,.int .i64,.at 800000000,.int .i64,.int .i64,.int .i64,.int .i64,.int .i64,.at 800000001,.int .i64,.bool,.bool]),(1000000000,[.fz tY,.int .i64,.int .i64])],[(800000000,tM,(.pr (.ow .fz) (.pr (.ow (.pr .fz .fz)) (.pr .fz (.ow .fz))))),(800000001,tW,(.pr .fz .fz))]⟩
def yeZ:Shape:=⟨[(4,false,[.ptr 0 0]),(5,false,[.ptr 4288 0])],[(0,[.int .i64,.int .i64,.int .i64,.nil,.int .i64,.int .i64,.int .i64,.int .i64,.int .i64,.nil,.int .i64,.bool,.bool]),(4288,[.int .i64,.int .i64,.int .i64,.at 800000000,.int .i64,.int .i64,.int .i64,.int .i64,.int .i64,.at 800000001,.int .i64,.bool,.bool]),(1000000000,[.fz tY,.int .i64,.int .i64])],[(800000000,tM,(.pr (.ow .fz) (.pr (.ow (.pr .fz .fz)) (.pr .fz (.ow .fz))))),(800000001,tW,(.pr .fz .fz))]⟩
def yiJ:Shape:=⟨[],[],[]⟩
abbrev yci (v0:Int) (v1 v2:dA) (v3:dU):(ybF).X:=((((),()),((),()),((),()),(v0,()),()),((v1.1,v1.2.1.1,v1.2.1.2,(),v1.2.2.2.1,v1.2.2.2.2.1,v1.2.2.2.2.2.1,v1.2.2.2.2.2.2.1,v1.2.2.2.2.2.2.2.1,(),v1.2.2.2.2.2.2.2.2.2.1,v1.2.2.2.2.2.2.2.2.2.2.1,v1.2.2.2.2.2.2.2.2.2.2.2,()),(v2.1,v2.2.1.1,v2.2.1.2,(),v2.2.2.2.1,v2.2.2.2.2.1,v2.2.2.2.2.2.1,v2.2.2.2.2.2.2.1,v2.2.2.2.2.2.2.2.1,(),v2.2.2.2.2.2.2.2.2.2.1,v2.2.2.2.2.2.2.2.2.2.2.1,v2.2.2.2.2.2.2.2.2.2.2.2,()),(v3.1,v3.2.1,v3.2.2,()),()),(v2.2.2.1,v2.2.2.2.2.2.2.2.2.1,()))
abbrev yJh (v0:Int) (v1 v2:dA) (v3:dU):(ye7).X:=((((),()),((),()),((),()),(v0,()),()),((v1.1,v1.2.1.1,v1.2.1.2,(),v1.2.2.2.1,v1.2.2.2.2.1,v1.2.2.2.2.2.1,v1.2.2.2.2.2.2.1,v1.2.2.2.2.2.2.2.1,(),v1.2.2.2.2.2.2.2.2.2.1,v1.2.2.2.2.2.2.2.2.2.2.1,v1.2.2.2.2.2.2.2.2.2.2.2,()),(v2.1,v2.2.1.1,v2.2.1.2,(),v2.2.2.2.1,v2.2.2.2.2.1,v2.2.2.2.2.2.1,v2.2.2.2.2.2.2.1,v2.2.2.2.2.2.2.2.1,(),v2.2.2.2.2.2.2.2.2.2.1,v2.2.2.2.2.2.2.2.2.2.2.1,v2.2.2.2.2.2.2.2.2.2.2.2,()),(v3.1,v3.2.1,v3.2.2,()),()),(v2.2.2.1,v2.2.2.2.2.2.2.2.2.1,()))
abbrev yI9 (v0 v1:dA) (v2:dU):(yeZ).X:=((((),()),((),()),()),((v0.1,v0.2.1.1,v0.2.1.2,(),v0.2.2.2.1,v0.2.2.2.2.1,v0.2.2.2.2.2.1,v0.2.2.2.2.2.2.1,v0.2.2.2.2.2.2.2.1,(),v0.2.2.2.2.2.2.2.2.2.1,v0.2.2.2.2.2.2.2.2.2.2.1,v0.2.2.2.2.2.2.2.2.2.2.2,()),(v1.1,v1.2.1.1,v1.2.1.2,(),v1.2.2.2.1,v1.2.2.2.2.1,v1.2.2.2.2.2.1,v1.2.2.2.2.2.2.1,v1.2.2.2.2.2.2.2.1,(),v1.2.2.2.2.2.2.2.2.2.1,v1.2.2.2.2.2.2.2.2.2.2.1,v1.2.2.2.2.2.2.2.2.2.2.2,()),(v2.1,v2.2.1,v2.2.2,()),()),(v1.2.2.1,v1.2.2.2.2.2.2.2.2.1,()))
def yes (v0 v1 v2 v3 v4 v5 v6 v7 v8 v9:Int) (v10 v11:Bool) (v12 v13 v14 v15 v16 v17 v18 v19 v20:Int) (v21 v22:Bool) (v23:List Int) (v24 v25:Int) (v26:List dM) (v27:List dW):Option ((ybF).X ⊕ ((yeZ).X ⊕ (yiJ).X)) :=bif(ltb 0 v0)then bif(!v21)then bnd (yfB (v23,v24,v25) (v12,(v13,v14),v26,v15,v16,v17,v18,v19,v27,v20,v21,v22)) fun r5 =>some (.inl ((((),()),((),()),((),()),((i64.wrap (v0-1)),()),()),((v1,v2,v3,(),v4,v5,v6,v7,v8,(),v9,v10,v11,()),(r5.2.2.1.1,r5.2.2.1.2.1.1,r5.2.2.1.2.1.2,(),r5.2.2.1.2.2.2.1,r5.2.2.1.2.2.2.2.1,r5.2.2.1.2.2.2.2.2.1,r5.2.2.1.2.2.2.2.2.2.1,r5.2.2.1.2.2.2.2.2.2.2.1,(),r5.2.2.1.2.2.2.2.2.2.2.2.2.1,r5.2.2.1.2.2.2.2.2.2.2.2.2.2.1,r5.2.2.1.2.2.2.2.2.2.2.2.2.2.2,()),(r5.2.1.1,r5.2.1.2.1,r5.2.1.2.2,()),()),(r5.2.2.1.2.2.1,r5.2.2.1.2.2.2.2.2.2.2.2.1,()))) else some (.inr (.inl ((((),()),((),()),()),((v1,v2,v3,(),v4,v5,v6,v7,v8,(),v9,v10,v11,()),(v12,v13,v14,(),v15,v16,v17,v18,v19,(),v20,v21,v22,()),(v23,v24,v25,()),()),(v26,v27,())))) else some (.inr (.inl ((((),()),((),()),()),((v1,v2,v3,(),v4,v5,v6,v7,v8,(),v9,v10,v11,()),(v12,v13,v14,(),v15,v16,v17,v18,v19,(),v20,v21,v22,()),(v23,v24,v25,()),()),(v26,v27,()))))
def yap (x:(ybF).X):=yes x.1.2.2.2.1.1 x.2.1.1.1 x.2.1.1.2.1 x.2.1.1.2.2.1 x.2.1.1.2.2.2.2.1 x.2.1.1.2.2.2.2.2.1 x.2.1.1.2.2.2.2.2.2.1 x.2.1.1.2.2.2.2.2.2.2.1 x.2.1.1.2.2.2.2.2.2.2.2.1 x.2.1.1.2.2.2.2.2.2.2.2.2.2.1 x.2.1.1.2.2.2.2.2.2.2.2.2.2.2.1 x.2.1.1.2.2.2.2.2.2.2.2.2.2.2.2.1 x.2.1.2.1.1 x.2.1.2.1.2.1 x.2.1.2.1.2.2.1 x.2.1.2.1.2.2.2.2.1 x.2.1.2.1.2.2.2.2.2.1 x.2.1.2.1.2.2.2.2.2.2.1 x.2.1.2.1.2.2.2.2.2.2.2.1 x.2.1.2.1.2.2.2.2.2.2.2.2.1 x.2.1.2.1.2.2.2.2.2.2.2.2.2.2.1 x.2.1.2.1.2.2.2.2.2.2.2.2.2.2.2.1 x.2.1.2.1.2.2.2.2.2.2.2.2.2.2.2.2.1 x.2.1.2.2.1.1 x.2.1.2.2.1.2.1 x.2.1.2.2.1.2.2.1 x.2.2.1 x.2.2.2.1
def yvE (x:(ye7).X):(ybF).X:=((((),()),((),()),((),()),(x.1.2.2.2.1.1,()),()),((x.2.1.1.1,x.2.1.1.2.1,x.2.1.1.2.2.1,(),x.2.1.1.2.2.2.2.1,x.2.1.1.2.2.2.2.2.1,x.2.1.1.2.2.2.2.2.2.1,x.2.1.1.2.2.2.2.2.2.2.1,x.2.1.1.2.2.2.2.2.2.2.2.1,(),x.2.1.1.2.2.2.2.2.2.2.2.2.2.1,x.2.1.1.2.2.2.2.2.2.2.2.2.2.2.1,x.2.1.1.2.2.2.2.2.2.2.2.2.2.2.2.1,()),(x.2.1.2.1.1,x.2.1.2.1.2.1,x.2.1.2.1.2.2.1,(),x.2.1.2.1.2.2.2.2.1,x.2.1.2.1.2.2.2.2.2.1,x.2.1.2.1.2.2.2.2.2.2.1,x.2.1.2.1.2.2.2.2.2.2.2.1,x.2.1.2.1.2.2.2.2.2.2.2.2.1,(),x.2.1.2.1.2.2.2.2.2.2.2.2.2.2.1,x.2.1.2.1.2.2.2.2.2.2.2.2.2.2.2.1,x.2.1.2.1.2.2.2.2.2.2.2.2.2.2.2.2.1,()),(x.2.1.2.2.1.1,x.2.1.2.2.1.2.1,x.2.1.2.2.1.2.2.1,()),()),(x.2.2.1,x.2.2.2.1,()))
def yxS:Code:=(zeJ ymp 64 244).getD .skip
theorem yJR:zeJ ymp 64 61=some (.block 0 (.loop yxS)):=by kernel_rfl
theorem yLw (x:(ybF).X):zhu ⟨ys4,29,yAt⟩ 0 yxS 244 ybF yeZ yiJ x=yap x:=by kernel_rfl
def yvM (x:(ye7).X):Nat:=18446744073709551616
def yni (x:(ye7).X):Option ((yeZ).X ⊕ (yiJ).X):=zF yap (yvM x) (yvE x)
def yv1:Seg:=⟨ye7,yeZ,yiJ,yni⟩
def yL8:Nat→Option Seg:=fun q=>bif Nat.beq q 61 then some yv1 else yAt q
theorem yKz:FrOk prog ⟨ys4,29,yL8⟩ ymp:=(yKy).loop (sg:=yv1) ybF yvE (by decide) yJR yap yvM (by decide) (fun _=>rfl) (fun x r _ h=>h) yLw
abbrev ytB:List Par:= [.pt tU .fz,.rd tI]
abbrev yt1:List OT:= [⟨false,tA,(.pr .fz (.pr (.pr .fz .fz) (.pr (.ow (.pr (.ow .fz) (.pr (.ow (.pr .fz .fz)) (.pr .fz (.ow .fz))))) (.pr .fz (.pr .fz (.pr .fz (.pr .fz (.pr .fz (.pr (.ow (.pr .fz .fz)) (.pr .fz (.pr .fz .fz)))))))))))⟩]
def ygs (a0:dU) (a1:Int):Option (zaY yt1×zak ytB) :=bnd (yfA a0 a1) fun r1 =>bnd (yeH r1.2.1 ([(-1),0,1,2,3,4,6,8,11,15,20]:List Int)) fun r2 =>bnd (yn r2.2.1 3) fun r3 =>zkr (yni ((((),()),((),()),((),()),((i64.wrap (1+r3.1.1)),()),()),((0,0,0,(),0,0,0,0,0,(),0,false,false,()),(r1.1.1.1,r1.1.1.2.1.1,r1.1.1.2.1.2,(),r1.1.1.2.2.2.1,r1.1.1.2.2.2.2.1,r1.1.1.2.2.2.2.2.1,r1.1.1.2.2.2.2.2.2.1,r1.1.1.2.2.2.2.2.2.2.1,(),r2.1.1,r1.1.1.2.2.2.2.2.2.2.2.2.2.1,r1.1.1.2.2.2.2.2.2.2.2.2.2.2,()),(r3.2.1.1,r3.2.1.2.1,r3.2.1.2.2,()),()),(r1.1.1.2.2.1,r1.1.1.2.2.2.2.2.2.2.2.1,()))) (fun y5 =>some (((y5.2.1.2.1.1,(y5.2.1.2.1.2.1,y5.2.1.2.1.2.2.1),y5.2.2.1,y5.2.1.2.1.2.2.2.2.1,y5.2.1.2.1.2.2.2.2.2.1,y5.2.1.2.1.2.2.2.2.2.2.1,y5.2.1.2.1.2.2.2.2.2.2.2.1,y5.2.1.2.1.2.2.2.2.2.2.2.2.1,y5.2.2.2.1,y5.2.1.2.1.2.2.2.2.2.2.2.2.2.2.1,y5.2.1.2.1.2.2.2.2.2.2.2.2.2.2.2.1,y5.2.1.2.1.2.2.2.2.2.2.2.2.2.2.2.2.1),()),((y5.2.1.2.2.1.1,y5.2.1.2.2.1.2.1,y5.2.1.2.2.1.2.2.1),()))) (fun y5 =>none)
theorem yNW:ConOk prog 93 ⟨ytB,yt1,fun x=>ygs x.1 x.2.1⟩:=zkG (yKz) func93 ntmps93.symm fun x=>by kernel_rfl
def yA0:Con:=⟨ytB,yt1,fun x=>ygs x.1 x.2.1⟩
theorem yRF:ConOk prog 93 yA0:=yNW
def ySb:Code:=(f53.body).getD .skip
def ySF:Env:=zku TT [(69,ywU),(71,yuj),(72,ya0),(79,yDv),(93,yA0)] []
theorem yKm:FrOk prog ⟨ySF,21,fun _=>none⟩ ySb:=zky yf yg ⟨yIL,yHx,ycf,yVr,yRF,trivial⟩
abbrev ytt:List Par:= [.kp tYs .fz]
abbrev ytP:List OT:= [⟨false,tA,(.pr .fz (.pr (.pr .fz .fz) (.pr (.ow (.pr (.ow .fz) (.pr (.ow (.pr .fz .fz)) (.pr .fz (.ow .fz))))) (.pr .fz (.pr .fz (.pr .fz (.pr .fz (.pr .fz (.pr (.ow (.pr .fz .fz)) (.pr .fz (.pr .fz .fz)))))))))))⟩,⟨false,tL,(.ow .fz)⟩,⟨false,tI,.fz⟩]
def ygr (a0:List Int):Option (zaY ytP×zak ytt) :=let r1:=yhl a0;bnd (yhu r1) fun r2 =>bnd (yn r2.2.1 20) fun r3 =>let r4:=ya6 a0 24;bnd (ygs r3.2.1 (i64.wrap (6+r4))) fun r5 =>some ((r5.1.1,r2.1.1,r3.1.1,()),())
theorem yNM:ConOk prog 53 ⟨ytt,ytP,fun x=>ygr x.1⟩:=zkG (yKm) func53 ntmps53.symm fun x=>by kernel_rfl
def yAT:Con:=⟨ytt,ytP,fun x=>ygr x.1⟩
theorem yRy:ConOk prog 53 yAT:=yNM
theorem y2C {K x:Int} {V:Int→Int→Int} {a:dA} (h:Lv K V a) (hx: -1≤x∧x≤1000):Lv K V (yhD a x false):=by
 obtain⟨⟨x1,x2,x3,x4,x5,x6,x7,x8,x9⟩,r,n⟩:=h;exact⟨⟨x1,⟨x2.1,hx⟩,rfl,x4,x5,x6,x7,x8,x9⟩,r,⟨n.n,n.z⟩⟩
def Fin (K:Int) (a:dA):Prop:=yI a∧Can K (fun _ _=>True) a
theorem y5m {K:Int} {V:Int→Int→Int} {a:dA} (h:Lv K V a):Fin K a:=⟨h.x.xk,yO1 (y5k h) (Int.le_refl _) (fun _ _ _=>trivial)⟩
theorem yO4 {K J:Int} {a:dA} (h:Fin K a) (hj:K≤J):Fin J a:=⟨h.1,yO1 h.2 hj (fun _ _ h=>h)⟩
theorem yOg: ∀(n:Nat) (k:Int) (V:Int→Int→Int) (a:dA) (u:dU) (fuel:Nat),n<fuel→n≤1000→ycA u→Lv k V a→k+16*n≤60000 →
  ∃(a':dA) (u':dU),zF yap fuel (yci n yaD a u)=some (.inl (yI9 yaD a' u'))∧Fin (k+16*n) a'
 | 0,k,V,a,u,fuel+1,_,_,hu,h,_=>⟨a,u,by simp only[zF,yap,yci,yes]; rfl,yO4 (y5m h) (by omega)⟩
 | n+1,k,V,a,u,fuel+1,hf,hn,hu,h,hk=>by
  obtain⟨u1,a1,e1,d1,h1⟩:=y2t u a hu h.x.xc h.x.xk;have ht:=yKF h h1 (by omega);rcases Bool.eq_false_or_eq_true (ya a1)with hd | hd
  ·refine⟨a1,u1,?_,y2g h.x.xk h.x.xc.1 h1,yO1 (y1g (ht.2 hd)) (by omega) (fun _ _ _=>trivial)⟩
   rw[zF];simp only[yap,yci,yes,zkw (show(0:Int)<((n+1:Nat):Int)by omega),cond_true,zkV,show((n+1:Nat):Int)-1=(n:Int)by omega,wq ((n:Int)) (by omega) (by omega)];rw[yHY (show a.2.2.2.2.2.2.2.2.2.2.1=false from h.x.xu),e1,zkF];simp only[zkV];obtain⟨fuel,rfl⟩: ∃m,fuel=m+1:=⟨fuel-1,by omega⟩;show zF yap (fuel+1) (yci n yaD a1 u1)=_;rw[zF];simp only[yap,yci,yes,zkV];cases ltb 0 ((n:Nat):Int)
   ·rfl
   ·rw[cond_true,y3z (show a1.2.2.2.2.2.2.2.2.2.2.1=true from hd)]
  ·obtain⟨V1,h2⟩:=ht.1 hd
   obtain⟨a',u',e2,g2⟩:=yOg n (k+16) V1 a1 u1 fuel (by omega) (by omega) d1 h2 (by omega);refine⟨a',u',?_,yO4 g2 (by omega)⟩;rw[← e2,zF];simp only[yap,yci,yes,zkw (show(0:Int)<((n+1:Nat):Int)by omega),cond_true,zkV,show((n+1:Nat):Int)-1=(n:Int)by omega,wq ((n:Int)) (by omega) (by omega)];rw[yHY (show a.2.2.2.2.2.2.2.2.2.2.1=false from h.x.xu),e1,zkF]
theorem y4Y (u:dU) (most:Int) (h:ycA u) (h0:0≤most) (h1:most≤30): ∃(a:dA) (u':dU),ygs u most=some ((a,()),(u',()))∧Fin 600 a:=by
 obtain⟨a,u1,k,e1,⟨w1,V,w2⟩,hk,d1⟩:=yS7 (P:=fun k a=>Wk k a∧ ∃V,Lv k V a) (K:=480) (fun k a h=>⟨h.1.1,h.1.2.1⟩)
  (fun k a b h ht hk=>by
   obtain⟨hw,V,hi⟩:=h;have hw':=yYZ hw ht (by omega)
   exact⟨ydi hw' (by omega),(yKF hi ht (by omega)).1 hw'.2.2.1.1⟩) (fun id g g1 g2 g3=>⟨y1X g1 g2 g3,_,y3N g1 g2 g3⟩) u most h (by omega) (by omega) (by omega)
 obtain⟨x,u2,e2,q3,d2⟩:=y1j u1 [(-1),0,1,2,3,4,6,8,11,15,20] d1 (by simp);obtain⟨r,u3,e3,q4,d3⟩:=ycV u2 3 d2;simp only[List.mem_cons,List.not_mem_nil,or_false]at q3;have:=q4.1; have:=q4.2.1 (by omega);have hlv:=y2C (x:=x) w2 (by omega);obtain⟨a',u',e4,g1⟩:=yOg (1+r).toNat k V (yhD a x false) u3 18446744073709551616 (by omega) (by omega) d3 hlv (by omega);rw[show(((1+r).toNat:Nat):Int)=1+r by omega]at e4;unfold ygs;simp only[e1,e2,e3,zkF,wq (1+r) (by omega) (by omega)];refine⟨a',u',?_,yO4 g1 (by omega)⟩
 have hu:yhD a x false=(a.1,a.2.1,a.2.2.1,a.2.2.2.1,a.2.2.2.2.1,a.2.2.2.2.2.1,a.2.2.2.2.2.2.1,a.2.2.2.2.2.2.2.1,a.2.2.2.2.2.2.2.2.1,x,a.2.2.2.2.2.2.2.2.2.2.1,a.2.2.2.2.2.2.2.2.2.2.2):=by
  unfold yhD;rw[show a.2.2.2.2.2.2.2.2.2.2.1=false from w2.x.xu]
 rw[hu]at e4;exact(congrArg (fun z=>zkr z _ _) (show yni (yJh (1+r) yaD (a.1,a.2.1,a.2.2.1,a.2.2.2.1,a.2.2.2.2.1,a.2.2.2.2.2.1,a.2.2.2.2.2.2.1,a.2.2.2.2.2.2.2.1,a.2.2.2.2.2.2.2.2.1,x,a.2.2.2.2.2.2.2.2.2.2.1,a.2.2.2.2.2.2.2.2.2.2.2) u3)=_ from e4)).trans rfl
theorem y2a (a0:List Int) (hb:a0.length≤140737488355328): ∃(a:dA) (ks:List Int) (n:Int),ygr a0=some ((a,ks,n,()),())∧Fin 600 a∧0≤n∧n<20:=by
 unfold ygr;obtain⟨h1,h2⟩:=y2s a0 24 (by omega) hb;obtain⟨ks,u1,e1,q1,d1⟩:=y24 _ (y3D a0 hb);obtain⟨n,u2,e2,q2,d2⟩:=ycV u1 20 d1;obtain⟨a,u3,e3,q3⟩:=y4Y u2 (6+ya6 a0 24) d2 (by omega) (by omega);simp only[e1,e2,e3,zkF,wq (6+ya6 a0 24) (by omega) (by omega)];exact⟨a,ks,n,rfl,q3,q2.1,q2.2.1 (by omega)⟩
def yJB:Code:=(f191.body).getD .skip
def yJG:Env:=zku TT [(81,yN),(185,yoQ)] []
theorem yHd:FrOk prog ⟨yJG,20,fun _=>none⟩ yJB:=zky yf yg ⟨y9,yAc,trivial⟩
abbrev yhY:List Par:= [.rd tL,.rd tI]
abbrev yno:List OT:= [⟨false,tI,.fz⟩]
def yk7 (a0:List Int) (a1:Int):Option (zaY yno×zak yhY) :=let r1:=ycE a0;let r2:=yi a1 0 (i64.wrap ((a0.length:Int)-1));bif r2 then bif(inb a1 a0.length)then some (((i64.wrap ((BitVec.ofInt IntKind.i64.bits r1 ^^^ BitVec.ofInt IntKind.i64.bits (nth a0 a1 0)).toNat:Int)),()),()) else none else some ((r1,()),())
theorem yIi:ConOk prog 191 ⟨yhY,yno,fun x=>yk7 x.1 x.2.1⟩:=zkG (yHd) func191 ntmps191.symm fun x=>by kernel_rfl
def yfc (a0:List Int) (a1:Int):Int:=ynC a0 a1
theorem yJi (a0:List Int) (a1:Int) (hk:zjw yhY (a0,a1,())):yk7 a0 a1=(fun n=>some ((n,()),())) (yfc a0 a1):=by
 have hb:a0.length*8≤2^47:=hk.1.1;unfold yk7 yfc ynC ycE;rw[yao,ynA (show a0.length≤1152921504606846976 by omega)];cases inb a1 a0.length<;>rfl
def yt9:Con:=⟨yhY,yno,fun x=>(fun n=>some ((n,()),())) (yfc x.1 x.2.1)⟩
theorem yJr:ConOk prog 191 yt9:=(yIi).mono (fun x r hk h=>(yJi x.1 x.2.1 hk).trans h)
def ysK:Code:=(f138.body).getD .skip
def yCm:Env:=zku TT [(55,yez),(109,yc5),(141,yue),(191,yt9)] []
theorem yTj:FrOk prog ⟨yCm,62,fun _=>none⟩ ysK:=zky yf yg ⟨yhP,ygp,yHu,yJr,trivial⟩
def yGJ:Nat→Option Seg:=fun _=>none
def ycL:Shape:=⟨[(1,false,[.int .i64]),(2,false,[.ptr 0 0]),(6,false,[.at 800000000]),(7,false,[.int .i64]),(28,false,[.int .i64]),(29,false,[.int .i64])],[(0,[.int .i64,.int .i64,.int .i64,.br tM,.int .i64,.int .i64,.int .i64,.int .i64,.int .i64,.br tW,.int .i64,.bool,.bool])],[(800000000,tI,.fz)]⟩
def yg0:Shape:=⟨[(1,false,[.int .i64]),(2,false,[.ptr 0 0]),(6,false,[.at 800000000]),(7,false,[.ci .i64 (-1)]),(28,false,[.int .i64]),(29,false,[.ci .i64 0])],[(0,[.int .i64,.int .i64,.int .i64,.br tM,.int .i64,.int .i64,.int .i64,.int .i64,.int .i64,.br tW,.int .i64,.bool,.bool])],[(800000000,tI,.fz)]⟩
def ygP:Shape:=⟨[(6,false,[.at 800000000]),(7,false,[.int .i64])],[],[(800000000,tI,.fz)]⟩
def yhb:Shape:=⟨[(4,false,[.nil]),(5,false,[.bool])],[],[]⟩
abbrev ypE (v0 v1 v2 v3:Int) (v4:dA) (v5:List Int):(ycL).X:=(((v0,()),((),()),((),()),(v1,()),(v2,()),(v3,()),()),((v4.1,v4.2.1.1,v4.2.1.2,v4.2.2.1,v4.2.2.2.1,v4.2.2.2.2.1,v4.2.2.2.2.2.1,v4.2.2.2.2.2.2.1,v4.2.2.2.2.2.2.2.1,v4.2.2.2.2.2.2.2.2.1,v4.2.2.2.2.2.2.2.2.2.1,v4.2.2.2.2.2.2.2.2.2.2.1,v4.2.2.2.2.2.2.2.2.2.2.2,()),()),(v5,()))
abbrev yNf (v0 v1:Int) (v2:dA) (v3:List Int):(yg0).X:=(((v0,()),((),()),((),()),((),()),(v1,()),((),()),()),((v2.1,v2.2.1.1,v2.2.1.2,v2.2.2.1,v2.2.2.2.1,v2.2.2.2.2.1,v2.2.2.2.2.2.1,v2.2.2.2.2.2.2.1,v2.2.2.2.2.2.2.2.1,v2.2.2.2.2.2.2.2.2.1,v2.2.2.2.2.2.2.2.2.2.1,v2.2.2.2.2.2.2.2.2.2.2.1,v2.2.2.2.2.2.2.2.2.2.2.2,()),()),(v3,()))
abbrev yM9 (v0:Int) (v1:List Int):(ygP).X:=((((),()),(v0,()),()),(),(v1,()))
abbrev yNo (v0:Bool):(yhb).X:=((((),()),(v0,()),()),(),())
def yqb (v0 v1 v2 v3 v4 v5 v6:Int) (v7:List dM) (v8 v9 v10 v11 v12:Int) (v13:List dW) (v14:Int) (v15 v16:Bool) (v17:List Int):Option ((ycL).X ⊕ ((ygP).X ⊕ (yhb).X)) :=bif(ltb v3 v2)then bnd (ylH (v4,(v5,v6),v7,v8,v9,v10,v11,v12,v13,v14,v15,v16) v3 v0) fun r4 =>bif(!r4.1.2.1)then bif(leb 0 v1)then some (.inr (.inr ((((),()),(false,()),()),(),()))) else bif(!r4.1.2.1)then bif(zkj v17.length ([r4.1.1]:List Int).length 8)then some (.inl (((v0,()),((),()),((),()),(v3,()),(v2,()),((i64.wrap (v3+1)),()),()),((v4,v5,v6,v7,v8,v9,v10,v11,v12,v13,v14,v15,v16,()),()),((v17++([r4.1.1]:List Int)),()))) else none else bif(zkj v17.length ([r4.1.1]:List Int).length 8)then some (.inl (((v0,()),((),()),((),()),(v1,()),(v2,()),((i64.wrap (v3+1)),()),()),((v4,v5,v6,v7,v8,v9,v10,v11,v12,v13,v14,v15,v16,()),()),((v17++([r4.1.1]:List Int)),()))) else none else bif(!r4.1.2.1)then bif(zkj v17.length ([r4.1.1]:List Int).length 8)then some (.inl (((v0,()),((),()),((),()),(v3,()),(v2,()),((i64.wrap (v3+1)),()),()),((v4,v5,v6,v7,v8,v9,v10,v11,v12,v13,v14,v15,v16,()),()),((v17++([r4.1.1]:List Int)),()))) else none else bif(zkj v17.length ([r4.1.1]:List Int).length 8)then some (.inl (((v0,()),((),()),((),()),(v1,()),(v2,()),((i64.wrap (v3+1)),()),()),((v4,v5,v6,v7,v8,v9,v10,v11,v12,v13,v14,v15,v16,()),()),((v17++([r4.1.1]:List Int)),()))) else none else some (.inr (.inl ((((),()),(v1,()),()),(),(v17,()))))
def yc9 (x:(ycL).X):=yqb x.1.1.1 x.1.2.2.2.1.1 x.1.2.2.2.2.1.1 x.1.2.2.2.2.2.1.1 x.2.1.1.1 x.2.1.1.2.1 x.2.1.1.2.2.1 x.2.1.1.2.2.2.1 x.2.1.1.2.2.2.2.1 x.2.1.1.2.2.2.2.2.1 x.2.1.1.2.2.2.2.2.2.1 x.2.1.1.2.2.2.2.2.2.2.1 x.2.1.1.2.2.2.2.2.2.2.2.1 x.2.1.1.2.2.2.2.2.2.2.2.2.1 x.2.1.1.2.2.2.2.2.2.2.2.2.2.1 x.2.1.1.2.2.2.2.2.2.2.2.2.2.2.1 x.2.1.1.2.2.2.2.2.2.2.2.2.2.2.2.1 x.2.2.1
def yA2 (x:(yg0).X):(ycL).X:=(((x.1.1.1,()),((),()),((),()),((-1),()),(x.1.2.2.2.2.1.1,()),(0,()),()),((x.2.1.1.1,x.2.1.1.2.1,x.2.1.1.2.2.1,x.2.1.1.2.2.2.1,x.2.1.1.2.2.2.2.1,x.2.1.1.2.2.2.2.2.1,x.2.1.1.2.2.2.2.2.2.1,x.2.1.1.2.2.2.2.2.2.2.1,x.2.1.1.2.2.2.2.2.2.2.2.1,x.2.1.1.2.2.2.2.2.2.2.2.2.1,x.2.1.1.2.2.2.2.2.2.2.2.2.2.1,x.2.1.1.2.2.2.2.2.2.2.2.2.2.2.1,x.2.1.1.2.2.2.2.2.2.2.2.2.2.2.2.1,()),()),(x.2.2.1,()))
def yC4:Code:=(zeJ ysK 64 500).getD .skip
theorem yOR:zeJ ysK 64 125=some (.block 0 (.loop yC4)):=by kernel_rfl
theorem yRL (x:(ycL).X):zhu ⟨yCm,62,yGJ⟩ 0 yC4 500 ycL ygP yhb x=yc9 x:=by kernel_rfl
def yBd (x:(yg0).X):Nat:=18446744073709551616
def yrj (x:(yg0).X):Option ((ygP).X ⊕ (yhb).X):=zF yc9 (yBd x) (yA2 x)
def yBC:Seg:=⟨yg0,ygP,yhb,yrj⟩
def yWb:Nat→Option Seg:=fun q=>bif Nat.beq q 125 then some yBC else yGJ q
theorem yTk:FrOk prog ⟨yCm,62,yWb⟩ ysK:=(yTj).loop (sg:=yBC) ycL yA2 (by decide) yOR yc9 yBd (by decide) (fun _=>rfl) (fun x r _ h=>h) yRL
abbrev ytn:List Par:= [.rd tA,.rd tI]
abbrev yCJ:List OT:= [⟨false,tL,(.ow .fz)⟩,⟨false,tB,.fz⟩]
def yxc (a0:dA) (a1:Int):Option (zaY yCJ×zak ytn) :=let r1:=yO a0;bif(!(!r1))then bif(!a0.2.2.2.2.2.2.2.2.2.2.2)then let r2:=yaC a0.2.1 a1;bif(!r2)then some (([],false,()),()) else zkr (yrj (((a1,()),((),()),((),()),((),()),((a0.2.2.1.length:Int),()),((),()),()),((a0.1,a0.2.1.1,a0.2.1.2,a0.2.2.1,a0.2.2.2.1,a0.2.2.2.2.1,a0.2.2.2.2.2.1,a0.2.2.2.2.2.2.1,a0.2.2.2.2.2.2.2.1,a0.2.2.2.2.2.2.2.2.1,a0.2.2.2.2.2.2.2.2.2.1,a0.2.2.2.2.2.2.2.2.2.2.1,a0.2.2.2.2.2.2.2.2.2.2.2,()),()),(([]:List Int),()))) (fun y4 =>bif(leb 0 y4.1.2.1.1)then let r6:=yfc y4.2.2.1 y4.1.2.1.1;bif(inb y4.1.2.1.1 y4.2.2.1.length)then some (((y4.2.2.1.set (y4.1.2.1.1).toNat r6),true,()),()) else none else some ((y4.2.2.1,true,()),())) (fun y4 =>some (([],y4.1.2.1.1,()),())) else some (([],false,()),()) else some (([],false,()),())
theorem yXB:ConOk prog 138 ⟨ytn,yCJ,fun x=>yxc x.1 x.2.1⟩:=zkG (yTk) func138 ntmps138.symm fun x=>by kernel_rfl
def ynQ (a0:dA) (a1:Int):List Int×Bool:=bif yal a0&&(!a0.2.2.2.2.2.2.2.2.2.2.2&&yL a0.2.1 a1)then yS a0 a1 else([],false)
theorem y0d (a0:dA) (a1:Int) (hk:zjw ytn (a0,a1,())):yxc a0 a1=(fun n=>some ((n.1,n.2,()),())) (ynQ a0 a1):=by
 unfold yxc ynQ yO;rw[yxE];cases ha:yal a0
 ·rfl
 have hg:=yl.1 (yiK ha);have hl:=yE2 ha
 have h1:yrj (yNf a1 a0.2.2.1.length a0 [])=some (bif yeQ (fun(i:Nat)=>yF a0 i a1) a0.2.1.1.toNat then .inr (yNo false)else .inl (yM9 (yJ (fun(i:Nat)=>yF a0 i a1) a0.2.1.1.toNat) (yai a0 a1 a0.2.1.1.toNat))) :=
  zjh (step:=yc9) (fun i=>ypE a1 (yJ (fun(i:Nat)=>yF a0 i a1) i) a0.2.2.1.length i a0 (yai a0 a1 i)) a0.2.1.1.toNat (fun i=> !yF a0 i a1&&leb 0 (yJ (fun(i:Nat)=>yF a0 i a1) i)) _ _ (fun i hi=>by
   simp only[yc9,ypE,yqb,zkw (show(i:Int)<a0.2.2.1.length by omega),cond_true,wq ((i:Int)+1) (by omega) (by omega),Int.natCast_add,Int.natCast_one,Int.toNat_natCast,zkV,yHB a0 i a1 (zkP (show i<a0.2.2.1.length by omega)),yhN,zkF,yJ];rw[zkD.2 (show((yai a0 a1 i).length+ [yjj a0 i a1].length)*8≤140737488355328 by simp only[List.length_cons,List.length_nil,yfl]; omega),yIQ]
   cases yF a0 i a1<;>cases leb 0 (yJ (fun(i:Nat)=>yF a0 i a1) i)<;>rfl) (by simp only[yc9,ypE,yqb,zk1 (show(a0.2.2.1.length:Int)≤(a0.2.1.1.toNat:Int)by omega),cond_false]) _ (by show _<18446744073709551616; omega)
 rw[h1];cases a0.2.2.2.2.2.2.2.2.2.2.2
 ·cases yL a0.2.1 a1
  ·rfl
  ·unfold yS
   cases yeQ (fun(i:Nat)=>yF a0 i a1) a0.2.1.1.toNat
   ·simp only[cond_false,zkL,yfc]
    cases hm:leb 0 (yJ (fun(i:Nat)=>yF a0 i a1) a0.2.1.1.toNat)
    ·rfl
    ·obtain⟨h2,h3⟩:=yYQ a0 a1 a0.2.1.1.toNat hm
     rw[h2,h3]; rfl
   ·rfl
 ·rfl
def yG2:Con:=⟨ytn,yCJ,fun x=>(fun n=>some ((n.1,n.2,()),())) (ynQ x.1 x.2.1)⟩
theorem y0y:ConOk prog 138 yG2:=(yXB).mono (fun x r hk h=>(y0d x.1 x.2.1 hk).trans h)
def yqD:Code:=(f68.body).getD .skip
def yyZ:Env:=zku TT [(138,yG2),(142,yt7)] []
theorem yO9:FrOk prog ⟨yyZ,39,fun _=>none⟩ yqD:=zky yf yg ⟨y0y,yHp,trivial⟩
def yEP:Nat→Option Seg:=fun _=>none
def ybY:Shape:=⟨[(1,false,[.int .i64]),(2,false,[.ptr 0 0]),(6,false,[.at 800000000]),(8,false,[.at 800000001]),(22,false,[.int .i64]),(23,false,[.int .i64])],[(0,[.int .i64,.int .i64,.int .i64,.br tM,.int .i64,.int .i64,.int .i64,.int .i64,.int .i64,.br tW,.int .i64,.bool,.bool])],[(800000000,tI,.fz),(800000001,tI,.fz)]⟩
def yf3:Shape:=⟨[(1,false,[.int .i64]),(2,false,[.ptr 0 0]),(6,false,[.at 800000000]),(8,false,[.at 800000001]),(22,false,[.int .i64]),(23,false,[.ci .i64 0])],[(0,[.int .i64,.int .i64,.int .i64,.br tM,.int .i64,.int .i64,.int .i64,.int .i64,.int .i64,.br tW,.int .i64,.bool,.bool])],[(800000000,tI,.fz),(800000001,tI,.fz)]⟩
def yfQ:Shape:=⟨[(8,false,[.at 800000000])],[],[(800000000,tI,.fz)]⟩
def yjq:Shape:=⟨[],[],[]⟩
abbrev ynD (v0 v1 v2:Int) (v3:dA) (v4 v5:List Int):(ybY).X:=(((v0,()),((),()),((),()),((),()),(v1,()),(v2,()),()),((v3.1,v3.2.1.1,v3.2.1.2,v3.2.2.1,v3.2.2.2.1,v3.2.2.2.2.1,v3.2.2.2.2.2.1,v3.2.2.2.2.2.2.1,v3.2.2.2.2.2.2.2.1,v3.2.2.2.2.2.2.2.2.1,v3.2.2.2.2.2.2.2.2.2.1,v3.2.2.2.2.2.2.2.2.2.2.1,v3.2.2.2.2.2.2.2.2.2.2.2,()),()),(v4,v5,()))
abbrev yKO (v0 v1:Int) (v2:dA) (v3 v4:List Int):(yf3).X:=(((v0,()),((),()),((),()),((),()),(v1,()),((),()),()),((v2.1,v2.2.1.1,v2.2.1.2,v2.2.2.1,v2.2.2.2.1,v2.2.2.2.2.1,v2.2.2.2.2.2.1,v2.2.2.2.2.2.2.1,v2.2.2.2.2.2.2.2.1,v2.2.2.2.2.2.2.2.2.1,v2.2.2.2.2.2.2.2.2.2.1,v2.2.2.2.2.2.2.2.2.2.2.1,v2.2.2.2.2.2.2.2.2.2.2.2,()),()),(v3,v4,()))
abbrev yyv (v0:List Int):(yfQ).X:=((((),()),()),(),(v0,()))
def yn3 (v0 v1 v2 v3 v4 v5:Int) (v6:List dM) (v7 v8 v9 v10 v11:Int) (v12:List dW) (v13:Int) (v14 v15:Bool) (v16 v17:List Int):Option ((ybY).X ⊕ ((yfQ).X ⊕ (yjq).X)) :=bif(ltb v2 v1)then let r3:=yfL (v4,v5) v0 v2;bif(inb r3 v16.length)then bif(zkj v17.length ([(nth v16 r3 0)]:List Int).length 8)then some (.inl (((v0,()),((),()),((),()),((),()),(v1,()),((i64.wrap (v2+1)),()),()),((v3,v4,v5,v6,v7,v8,v9,v10,v11,v12,v13,v14,v15,()),()),(v16,(v17++([(nth v16 r3 0)]:List Int)),()))) else none else none else some (.inr (.inl ((((),()),()),(),(v17,()))))
def ycj (x:(ybY).X):=yn3 x.1.1.1 x.1.2.2.2.2.1.1 x.1.2.2.2.2.2.1.1 x.2.1.1.1 x.2.1.1.2.1 x.2.1.1.2.2.1 x.2.1.1.2.2.2.1 x.2.1.1.2.2.2.2.1 x.2.1.1.2.2.2.2.2.1 x.2.1.1.2.2.2.2.2.2.1 x.2.1.1.2.2.2.2.2.2.2.1 x.2.1.1.2.2.2.2.2.2.2.2.1 x.2.1.1.2.2.2.2.2.2.2.2.2.1 x.2.1.1.2.2.2.2.2.2.2.2.2.2.1 x.2.1.1.2.2.2.2.2.2.2.2.2.2.2.1 x.2.1.1.2.2.2.2.2.2.2.2.2.2.2.2.1 x.2.2.1 x.2.2.2.1
def yxZ (x:(yf3).X):(ybY).X:=(((x.1.1.1,()),((),()),((),()),((),()),(x.1.2.2.2.2.1.1,()),(0,()),()),((x.2.1.1.1,x.2.1.1.2.1,x.2.1.1.2.2.1,x.2.1.1.2.2.2.1,x.2.1.1.2.2.2.2.1,x.2.1.1.2.2.2.2.2.1,x.2.1.1.2.2.2.2.2.2.1,x.2.1.1.2.2.2.2.2.2.2.1,x.2.1.1.2.2.2.2.2.2.2.2.1,x.2.1.1.2.2.2.2.2.2.2.2.2.1,x.2.1.1.2.2.2.2.2.2.2.2.2.2.1,x.2.1.1.2.2.2.2.2.2.2.2.2.2.2.1,x.2.1.1.2.2.2.2.2.2.2.2.2.2.2.2.1,()),()),(x.2.2.1,x.2.2.2.1,()))
def yAu:Code:=(zeJ yqD 64 500).getD .skip
theorem yMd:zeJ yqD 64 125=some (.block 0 (.loop yAu)):=by kernel_rfl
theorem yNZ (x:(ybY).X):zhu ⟨yyZ,39,yEP⟩ 0 yAu 500 ybY yfQ yjq x=ycj x:=by kernel_rfl
def yyf (x:(yf3).X):Nat:=18446744073709551616
def ypc (x:(yf3).X):Option ((yfQ).X ⊕ (yjq).X):=zF ycj (yyf x) (yxZ x)
def yyJ:Seg:=⟨yf3,yfQ,yjq,ypc⟩
def ySj:Nat→Option Seg:=fun q=>bif Nat.beq q 125 then some yyJ else yEP q
theorem yPa:FrOk prog ⟨yyZ,39,ySj⟩ yqD:=(yO9).loop (sg:=yyJ) ybY yxZ (by decide) yMd ycj yyf (by decide) (fun _=>rfl) (fun x r _ h=>h) yNZ
abbrev yqM:List Par:= [.rd tA,.rd tI]
abbrev yzw:List OT:= [⟨false,tL,(.ow .fz)⟩,⟨false,tB,.fz⟩]
def yuT (a0:dA) (a1:Int):Option (zaY yzw×zak yqM) :=let r1:=ynQ a0 a1;bif(!r1.2)then some (([],false,()),()) else zkr (ypc (((a1,()),((),()),((),()),((),()),((i64.wrap (a0.2.1.1-1)),()),((),()),()),((a0.1,a0.2.1.1,a0.2.1.2,a0.2.2.1,a0.2.2.2.1,a0.2.2.2.2.1,a0.2.2.2.2.2.1,a0.2.2.2.2.2.2.1,a0.2.2.2.2.2.2.2.1,a0.2.2.2.2.2.2.2.2.1,a0.2.2.2.2.2.2.2.2.2.1,a0.2.2.2.2.2.2.2.2.2.2.1,a0.2.2.2.2.2.2.2.2.2.2.2,()),()),(r1.1,([]:List Int),()))) (fun y3 =>some ((y3.2.2.1,true,()),())) (fun y3 =>none)
theorem yUx:ConOk prog 68 ⟨yqM,yzw,fun x=>yuT x.1 x.2.1⟩:=zkG (yPa) func68 ntmps68.symm fun x=>by kernel_rfl
def yly (a0:dA) (a1:Int):List Int×Bool:=ydG a0 a1
theorem yWX (a0:dA) (a1:Int) (hk:zjw yqM (a0,a1,())):yuT a0 a1=(fun n=>some ((n.1,n.2,()),())) (yly a0 a1):=by
 unfold yuT yly ydG ynQ;cases hc:(yal a0&&(!a0.2.2.2.2.2.2.2.2.2.2.2&&yL a0.2.1 a1))
 ·rfl
 simp only[Bool.and_eq_true]at hc;have hg:=yl.1 (yiK hc.1);have hs:=hc.2.2;unfold yq6;simp only[cond_true];cases hw:(yS a0 a1).2
 ·rfl
 ·have hL:=yLF hw
  have h1:ypc (yKO a1 (a0.2.1.1-1) a0 (yS a0 a1).1 [])=some (.inl (yyv ((List.range (a0.2.1.1-1).toNat).foldl (fun l (i:Nat)=>l++ [nth (yS a0 a1).1 (yaQ a0.2.1 a1 i) 0]) []))) :=
   zkB (step:=ycj) (a0.2.1.1-1).toNat (fun i s=>ynD a1 (a0.2.1.1-1) i a0 (yS a0 a1).1 s) (fun l (i:Nat)=>l++ [nth (yS a0 a1).1 (yaQ a0.2.1 a1 i) 0]) (fun i s=>s.length=i) (fun s=> .inl (yyv s)) (fun i s hi hs2=>⟨by
    have hd:=yLM hs (show(0:Int)≤i by omega) (show(i:Int)≤a0.2.1.1-2 by omega);simp only[ycj,ynD,yn3,zkw (show(i:Int)<a0.2.1.1-1 by omega),cond_true,wq ((i:Int)+1) (by omega) (by omega),Int.natCast_add,Int.natCast_one,Int.toNat_natCast,zkV,yfL,zj4.2 (show 0≤yaQ a0.2.1 a1 i∧yaQ a0.2.1 a1 i<(yS a0 a1).1.length by omega)]
    rw[zkD.2 (show(s.length+ [nth (yS a0 a1).1 (yaQ a0.2.1 a1 i) 0].length)*8≤140737488355328 by simp only[List.length_cons,List.length_nil]; omega)]; rfl,by simp[hs2]⟩) (fun s hs2=>by simp only[ycj,ynD,yn3,zk1 (show a0.2.1.1-1≤((a0.2.1.1-1).toNat:Int)by omega),cond_false]) [] rfl _ (by show _<18446744073709551616; omega)
  simp only[wq (a0.2.1.1-1) (by omega) (by omega)];rw[h1,ykZ]; rfl
def yFk:Con:=⟨yqM,yzw,fun x=>(fun n=>some ((n.1,n.2,()),())) (yly x.1 x.2.1)⟩
theorem yXU:ConOk prog 68 yFk:=(yUx).mono (fun x r hk h=>(yWX x.1 x.2.1 hk).trans h)
def yoj:Code:=(f54.body).getD .skip
def yv6:Env:=zku TT [(68,yFk),(123,ygy)] []
theorem yMs:FrOk prog ⟨yv6,32,fun _=>none⟩ yoj:=zky yf yg ⟨yXU,ylI,trivial⟩
def yB7:Nat→Option Seg:=fun _=>none
def ybZ:Shape:=⟨[(1,false,[.ptr 0 0]),(3,false,[.at 800000000]),(15,false,[.int .i64]),(16,false,[.int .i64])],[(0,[.int .i64,.int .i64,.int .i64,.br tM,.int .i64,.int .i64,.int .i64,.int .i64,.int .i64,.br tW,.int .i64,.bool,.bool])],[(800000000,tI,.fz)]⟩
def yf4:Shape:=⟨[(1,false,[.ptr 0 0]),(3,false,[.at 800000000]),(15,false,[.int .i64]),(16,false,[.ci .i64 0])],[(0,[.int .i64,.int .i64,.int .i64,.br tM,.int .i64,.int .i64,.int .i64,.int .i64,.int .i64,.br tW,.int .i64,.bool,.bool])],[(800000000,tI,.fz)]⟩
def yfR:Shape:=⟨[(3,false,[.at 800000000])],[],[(800000000,tI,.fz)]⟩
def ygh:Shape:=⟨[(2,false,[.nil])],[],[]⟩
abbrev ynE (v0 v1:Int) (v2:dA) (v3:List Int):(ybZ).X:=((((),()),((),()),(v0,()),(v1,()),()),((v2.1,v2.2.1.1,v2.2.1.2,v2.2.2.1,v2.2.2.2.1,v2.2.2.2.2.1,v2.2.2.2.2.2.1,v2.2.2.2.2.2.2.1,v2.2.2.2.2.2.2.2.1,v2.2.2.2.2.2.2.2.2.1,v2.2.2.2.2.2.2.2.2.2.1,v2.2.2.2.2.2.2.2.2.2.2.1,v2.2.2.2.2.2.2.2.2.2.2.2,()),()),(v3,()))
abbrev yKP (v0:Int) (v1:dA) (v2:List Int):(yf4).X:=((((),()),((),()),(v0,()),((),()),()),((v1.1,v1.2.1.1,v1.2.1.2,v1.2.2.1,v1.2.2.2.1,v1.2.2.2.2.1,v1.2.2.2.2.2.1,v1.2.2.2.2.2.2.1,v1.2.2.2.2.2.2.2.1,v1.2.2.2.2.2.2.2.2.1,v1.2.2.2.2.2.2.2.2.2.1,v1.2.2.2.2.2.2.2.2.2.2.1,v1.2.2.2.2.2.2.2.2.2.2.2,()),()),(v2,()))
abbrev yyw (v0:List Int):(yfR).X:=((((),()),()),(),(v0,()))
abbrev yK1  :(ygh).X:=((((),()),()),(),())
def yn4 (v0 v1 v2 v3 v4:Int) (v5:List dM) (v6 v7 v8 v9 v10:Int) (v11:List dW) (v12:Int) (v13 v14:Bool) (v15:List Int):Option ((ybZ).X ⊕ ((yfR).X ⊕ (ygh).X)) :=bif(ltb v1 v0)then let r3:=yly (v2,(v3,v4),v5,v6,v7,v8,v9,v10,v11,v12,v13,v14) v1;bif(!r3.2)then some (.inr (.inr ((((),()),()),(),()))) else bif(zkj v15.length r3.1.length 8)then some (.inl ((((),()),((),()),(v0,()),((i64.wrap (v1+1)),()),()),((v2,v3,v4,v5,v6,v7,v8,v9,v10,v11,v12,v13,v14,()),()),((v15++r3.1),()))) else none else some (.inr (.inl ((((),()),()),(),(v15,()))))
def yck (x:(ybZ).X):=yn4 x.1.2.2.1.1 x.1.2.2.2.1.1 x.2.1.1.1 x.2.1.1.2.1 x.2.1.1.2.2.1 x.2.1.1.2.2.2.1 x.2.1.1.2.2.2.2.1 x.2.1.1.2.2.2.2.2.1 x.2.1.1.2.2.2.2.2.2.1 x.2.1.1.2.2.2.2.2.2.2.1 x.2.1.1.2.2.2.2.2.2.2.2.1 x.2.1.1.2.2.2.2.2.2.2.2.2.1 x.2.1.1.2.2.2.2.2.2.2.2.2.2.1 x.2.1.1.2.2.2.2.2.2.2.2.2.2.2.1 x.2.1.1.2.2.2.2.2.2.2.2.2.2.2.2.1 x.2.2.1
def yx0 (x:(yf4).X):(ybZ).X:=((((),()),((),()),(x.1.2.2.1.1,()),(0,()),()),((x.2.1.1.1,x.2.1.1.2.1,x.2.1.1.2.2.1,x.2.1.1.2.2.2.1,x.2.1.1.2.2.2.2.1,x.2.1.1.2.2.2.2.2.1,x.2.1.1.2.2.2.2.2.2.1,x.2.1.1.2.2.2.2.2.2.2.1,x.2.1.1.2.2.2.2.2.2.2.2.1,x.2.1.1.2.2.2.2.2.2.2.2.2.1,x.2.1.1.2.2.2.2.2.2.2.2.2.2.1,x.2.1.1.2.2.2.2.2.2.2.2.2.2.2.1,x.2.1.1.2.2.2.2.2.2.2.2.2.2.2.2.1,()),()),(x.2.2.1,()))
def yAv:Code:=(zeJ yoj 64 244).getD .skip
theorem yMe:zeJ yoj 64 61=some (.block 0 (.loop yAv)):=by kernel_rfl
theorem yN0 (x:(ybZ).X):zhu ⟨yv6,32,yB7⟩ 0 yAv 244 ybZ yfR ygh x=yck x:=by kernel_rfl
def yyg (x:(yf4).X):Nat:=18446744073709551616
def ypd (x:(yf4).X):Option ((yfR).X ⊕ (ygh).X):=zF yck (yyg x) (yx0 x)
def yyK:Seg:=⟨yf4,yfR,ygh,ypd⟩
def yOz:Nat→Option Seg:=fun q=>bif Nat.beq q 61 then some yyK else yB7 q
theorem yMt:FrOk prog ⟨yv6,32,yOz⟩ yoj:=(yMs).loop (sg:=yyK) ybZ yx0 (by decide) yMe yck yyg (by decide) (fun _=>rfl) (fun x r _ h=>h) yN0
abbrev yov:List Par:= [.rd tA]
abbrev yww:List OT:= [⟨false,tL,(.ow .fz)⟩]
def yrT (a0:dA):Option (zaY yww×zak yov) :=let r1:=ybG a0.2.1;bif(!r1)then some ((([]:List Int),()),()) else zkr (ypd ((((),()),((),()),(a0.2.1.2,()),((),()),()),((a0.1,a0.2.1.1,a0.2.1.2,a0.2.2.1,a0.2.2.2.1,a0.2.2.2.2.1,a0.2.2.2.2.2.1,a0.2.2.2.2.2.2.1,a0.2.2.2.2.2.2.2.1,a0.2.2.2.2.2.2.2.2.1,a0.2.2.2.2.2.2.2.2.2.1,a0.2.2.2.2.2.2.2.2.2.2.1,a0.2.2.2.2.2.2.2.2.2.2.2,()),()),(([]:List Int),()))) (fun y3 =>some ((y3.2.2.1,()),())) (fun y3 =>some (([],()),()))
theorem yQW:ConOk prog 54 ⟨yov,yww,fun x=>yrT x.1⟩:=zkG (yMt) func54 ntmps54.symm fun x=>by kernel_rfl
def yeC (a0:dA):List Int:=yhJ a0
theorem yT5 (a0:dA) (hk:zjw yov (a0,())):yrT a0=(fun n=>some ((n,()),())) (yeC a0):=by
 unfold yrT yeC yhJ;rw[yKA];cases hg0:yd a0.2.1
 ·rw[show yal a0=false by unfold yal; rw[hg0]; rfl]; rfl
 have hg:=yl.1 hg0
 have h1:ypd (yKP a0.2.1.2 a0 [])=some (bif(List.range a0.2.1.2.toNat).all (fun(s:Nat)=>(ydG a0 s).2)then .inl (yyw ((List.range a0.2.1.2.toNat).foldl (fun l (s:Nat)=>l++(ydG a0 s).1) []))else .inr (yK1)) :=
  zhU (step:=yck) a0.2.1.2.toNat (fun i s=>ynE a0.2.1.2 i a0 s) (fun(s:Nat)=>(ydG a0 s).2) (fun l (s:Nat)=>l++(ydG a0 s).1) (fun i s=>s.length≤4*i) (fun s=> .inl (yyw s)) _ (fun i s hi hs=>by
   have:=y20 i hg0;refine⟨?_,fun _=>by rw[List.length_append]; omega⟩;simp only[yck,ynE,yn4,zkw (show(i:Int)<a0.2.1.2 by omega),cond_true,wq ((i:Int)+1) (by omega) (by omega),Int.natCast_add,Int.natCast_one,Int.toNat_natCast,zkV,yly,zkD.2 (show(s.length+(ydG a0 i).1.length)*8≤140737488355328 by omega)]
   cases(ydG a0 i).2<;>rfl) (fun s hs=>by simp only[yck,ynE,yn4,zk1 (show a0.2.1.2≤(a0.2.1.2.toNat:Int)by omega),cond_false]) [] (Nat.zero_le _) _ (by show _<18446744073709551616; omega)
 rw[h1,yYG];cases ha:yal a0
 ·have:(List.range a0.2.1.2.toNat).all (fun(s:Nat)=>(ydG a0 s).2)=false:=by
   rw[List.all_eq_false];refine⟨0,List.mem_range.2 (by omega),?_⟩;unfold ydG;rw[ha]; simp
  rw[this]; rfl
 ·cases(List.range a0.2.1.2.toNat).all (fun(s:Nat)=>(ydG a0 s).2)<;>rfl
def yDe:Con:=⟨yov,yww,fun x=>(fun n=>some ((n,()),())) (yeC x.1)⟩
theorem yVa:ConOk prog 54 yDe:=(yQW).mono (fun x r hk h=>(yT5 x.1 hk).trans h)
end
end Go.Tf
