/- Functions of the program, and what they come to. -/
import Derived.Test.YtolmneojjjpnjaaGreatBuiltTornF4
namespace Go.Tf
noncomputable section
open Go.Proofs Go.Proofs.Tryz IntKind
set_option synthInstance.maxHeartbeats 400000
set_option synthInstance.maxSize 10000
set_option linter.unusedVariables false
set_option linter.unusedSimpArgs false
set_option maxRecDepth 100000
def yTw:Code:=(f203.body).getD .skip
def yTX:Env:=zkw TT [(174,ynv),(177,yuY),(178,ynu)] []
theorem yLR:FrOk prog ⟨yTX,27,fun _=>none⟩ yTw:=zkA mixed yf ⟨yx3,yIG,yx2,trivial⟩
abbrev yim:List Par:= [.pt tA oB]
abbrev yng:List OT:= [⟨false,tI,.fz⟩]
def yqF (a0:dA):Option (zaY yng×zak yim) :=let r1:=ycU a0.2.1;let r2:=yeq r1;bif(inb a0.2.2.2.1 a0.2.2.1.length)then let r3:=ybc (a0.1,a0.2.1,(a0.2.2.1.set (a0.2.2.2.1).toNat r2),a0.2.2.2.1,0,a0.2.2.2.2.2);bif r3.2.2.2.2.2.2.2.2.2.2.1 then some ((6,()),(r3,())) else some ((0,()),(r3,())) else none
theorem yPf:ConOk prog 203 ⟨yim,yng,fun x=>yqF x.1⟩:=zkI (yLR) func203 ntmps203.symm fun x=>by kernel_rfl
def ynz (a0:dA):Int×dA:=(bif ya (yn (yp a0))then 6 else 0,yn (yp a0))
def yjs (a0:dA):Bool:=ye a0.2.1&&inb a0.2.2.2.1 a0.2.2.1.length
theorem ySe (a0:dA) (hk:zjx yim (a0,())) (hq:yjs a0=true):yqF a0=(fun n=>some ((n.1,()),(n.2,()))) (ynz a0):=by
 simp only[yjs,Bool.and_eq_true]at hq;have hg:=yj.1 hq.1;unfold yqF ynz;simp only[ycU,wq (6+a0.2.1.2) (by omega) (by omega),hq.2,yeq,ybc];show(bif ya (yn (yp a0))then some ((6,()),(yn (yp a0),()))else some ((0,()),(yn (yp a0),())))=_;cases ya (yn (yp a0))<;>rfl
def yjq (a0:dA):Option (zaY yng×zak yim):=bif yjs a0 then(fun n=>some ((n.1,()),(n.2,()))) (ynz a0)else none
theorem yS0 (a0:dA) (h:yjs a0=true):yjq a0=(fun n=>some ((n.1,()),(n.2,()))) (ynz a0):=by unfold yjq; rw[h]; rfl
def yB2:Con:=⟨yim,yng,fun x=>yjq x.1⟩
theorem ySX:ConOk prog 203 yB2:=(yPf).mono (fun x r hk h=>zkY h (fun hq=>ySe x.1 hk hq))
def yXc:Code:=(f204.body).getD .skip
def yXB:Env:=zkw TT [(113,yfM),(206,ykv),(227,yr4)] []
theorem yOf:FrOk prog ⟨yXB,49,fun _=>none⟩ yXc:=zkA mixed yf ⟨ykS,yrG,yGV,trivial⟩
abbrev yka:List Par:= [.pt tA oB]
abbrev ypk:List OT:= [⟨false,tI,.fz⟩]
def ysF (a0:dA):Option (zaY ypk×zak yka) :=bnd (ykQ a0 a0.2.2.2.2.1) fun r1 =>bif(!r1.1.2.1)then some ((5,()),(a0,())) else let r2:=ybU a0.2.2.2.2.1;bif(inb a0.2.2.2.1 r1.1.1.length)then bnd (yfD a0 a0.2.2.2.1 r2 ([(nth r1.1.1 a0.2.2.2.1 0)]:List Int)) fun r3 =>bif r3.2.1.2.2.2.2.2.2.2.2.2.2.1 then some ((6,()),(r3.2.1,())) else some ((0,()),((r3.2.1.1,r3.2.1.2.1,r3.2.1.2.2.1,r3.2.1.2.2.2.1,(i64.wrap (r3.2.1.2.2.2.2.1+1)),r3.2.1.2.2.2.2.2),())) else none
theorem ySy:ConOk prog 204 ⟨yka,ypk,fun x=>ysF x.1⟩:=zkI (yOf) func204 ntmps204.symm fun x=>by kernel_rfl
def ypz (a0:dA):Int×dA:=yY a0
def ykT (a0:dA):Bool:=ye a0.2.1&&(inb a0.2.2.2.1 a0.2.2.1.length&&inb a0.2.2.2.1 a0.2.1.1.toNat)
theorem yVB (a0:dA) (hk:zjx yka (a0,())) (hq:ykT a0=true):ysF a0=(fun n=>some ((n.1,()),(n.2,()))) (ypz a0):=by
 simp only[ykT,Bool.and_eq_true]at hq;unfold ysF ypz yY;rw[yGZ a0 a0.2.2.2.2.1 hq.1];simp only[zkH,ygR,ygV];cases hw:(yK a0 a0.2.2.2.2.1).2
 ·rfl
 ·rw[yHm hw,hq.2.2,ymf a0 a0.2.2.2.1 (yu a0.2.2.2.2.1) [nth (yK a0 a0.2.2.2.2.1).1 a0.2.2.2.1 0] hq.2.1]
  simp only[zkH,yot,Bool.not_true,cond_false,cond_true];show(bif ya (yL a0)then some ((6,()),(yL a0,()))else some ((0,()),(yW0 (yL a0),())))=_;cases ya (yL a0)<;>rfl
def ykP (a0:dA):Option (zaY ypk×zak yka):=bif ykT a0 then(fun n=>some ((n.1,()),(n.2,()))) (ypz a0)else none
theorem yWE (a0:dA) (h:ykT a0=true):ykP a0=(fun n=>some ((n.1,()),(n.2,()))) (ypz a0):=by unfold ykP; rw[h]; rfl
def yEo:Con:=⟨yka,ypk,fun x=>ykP x.1⟩
theorem yWy:ConOk prog 204 yEo:=(ySy).mono (fun x r hk h=>zkY h (fun hq=>yVB x.1 hk hq))
def y0G:Code:=(f163.body).getD .skip
def y1e:Env:=zkw TT [(72,yaP),(83,yGt),(108,yr3),(112,yBZ),(113,yfM),(117,yxT),(118,yxU),(119,yi9),(120,yu0),(171,yr5),(179,yr6),(203,yB2),(204,yEo)] []
theorem yRa:FrOk prog ⟨y1e,160,fun _=>none⟩ y0G:=zkA mixed yf ⟨ybw,yZi,yGU,ySU,ykS,yJZ,yJ0,ypF,yIH,yGW,yGX,ySX,yWy,trivial⟩
abbrev yv:List Par:= [.pt tU .fz,.pt tA oB]
abbrev yw:List OT:= []
def yfS (a0:dU) (a1:dA):Option (zaY yw×zak yv) :=bnd (yl a0 14) fun r1 =>let k1:Option (zaY yw×zak yv) :=bnd (ycq r1.2.1 3) fun r9 =>bif r9.1.1 then bif(a1.2.2.2.1==(-1))then bnd (yl r9.2.1 a1.2.1.1) fun r10 =>bnd (ygT a1 r10.1.1) fun r11 =>some ((),(r10.2.1,r11.2.1,())) else some ((),(r9.2.1,a1,())) else some ((),(r9.2.1,a1,()));let k2:Option (zaY yw×zak yv) :=bif(inb a1.2.2.2.1 a1.2.2.1.length)then bif(((nth a1.2.2.1 a1.2.2.2.1 ([],[],false,[])).2).2).1 then bnd (yjq a1) fun r12 =>some ((),(r1.2.1,r12.2.1,())) else some ((),(r1.2.1,a1,())) else none;let k3:Option (zaY yw×zak yv) :=bif(leb 0 a1.2.2.2.1)then k2 else some ((),(r1.2.1,a1,()));let k4:Option (zaY yw×zak yv) :=bif(inb a1.2.2.2.1 a1.2.2.1.length)then bif(!((((nth a1.2.2.1 a1.2.2.2.1 ([],[],false,[])).2).2).1))then bif(ltb a1.2.2.2.2.1 a1.2.1.2)then bnd (ykP a1) fun r13 =>some ((),(r1.2.1,r13.2.1,())) else some ((),(r1.2.1,a1,())) else some ((),(r1.2.1,a1,())) else none;let k5:Option (zaY yw×zak yv) :=bif(leb 0 a1.2.2.2.1)then k4 else some ((),(r1.2.1,a1,()));let k6:Option (zaY yw×zak yv) :=bnd (ycq r1.2.1 3) fun r15 =>bif r15.1.1 then bnd (yl r15.2.1 a1.2.1.1) fun r16 =>bif(inb r16.1.1 a1.2.2.1.length)then bnd (yl r16.2.1 a1.2.1.2) fun r17 =>let r18:=ybU r17.1.1;let r19:=yny ((nth a1.2.2.1 r16.1.1 ([],[],false,[])).1,((nth a1.2.2.1 r16.1.1 ([],[],false,[])).2).1,(((nth a1.2.2.1 r16.1.1 ([],[],false,[])).2).2)) r18;bif(inb r16.1.1 a1.2.2.1.length)then some ((),(r17.2.1,(a1.1,a1.2.1,(a1.2.2.1.set (r16.1.1).toNat r19),a1.2.2.2),())) else none else none else some ((),(r15.2.1,a1,()));let k7:Option (zaY yw×zak yv) :=bif(a1.2.2.2.1==(-1))then k6 else some ((),(r1.2.1,a1,()));let k8:Option (zaY yw×zak yv) :=bif(r1.1.1==12)then let r14:=ygS a1;some ((),(r1.2.1,r14,())) else k7;let k9:Option (zaY yw×zak yv) :=bif(r1.1.1==10)then k5 else k8;let k10:Option (zaY yw×zak yv) :=bif(r1.1.1==11)then k5 else k8;let k11:Option (zaY yw×zak yv) :=bif(r1.1.1==10)then k9 else k10;let k12:Option (zaY yw×zak yv) :=bif(r1.1.1==9)then k3 else k11;let k13:Option (zaY yw×zak yv) :=bif(r1.1.1==8)then k1 else k12;let k14:Option (zaY yw×zak yv) :=bif(r1.1.1==7)then bnd (ykR a1) fun r8 =>some ((),(r1.2.1,r8.2.1,())) else k13;let k15:Option (zaY yw×zak yv) :=bif(r1.1.1==4)then bnd (yl r1.2.1 a1.2.1.2) fun r6 =>bnd (ydk a1 r6.1.1) fun r7 =>some ((),(r6.2.1,r7.2.1,())) else k14;let k16:Option (zaY yw×zak yv) :=bif(r1.1.1==5)then bnd (yl r1.2.1 a1.2.1.2) fun r27 =>bnd (ydk a1 r27.1.1) fun r28 =>some ((),(r27.2.1,r28.2.1,())) else k14;let k17:Option (zaY yw×zak yv) :=bif(r1.1.1==6)then bnd (yl r1.2.1 a1.2.1.2) fun r48 =>bnd (ydk a1 r48.1.1) fun r49 =>some ((),(r48.2.1,r49.2.1,())) else k14;let k18:Option (zaY yw×zak yv) :=bif(r1.1.1==5)then k16 else k17;let k19:Option (zaY yw×zak yv) :=bif(r1.1.1==4)then k15 else k18;bif(r1.1.1==0)then bif(r1.1.1==0)then let r2:=yB a1.2.1;bnd (yl r1.2.1 r2) fun r3 =>bnd (yaZ r3.2.1) fun r4 =>bnd (yd1 a1 r3.1.1 r4.1.1) fun r5 =>some ((),(r4.2.1,r5.2.1,())) else k19 else bif(r1.1.1==1)then bif(r1.1.1==1)then let r69:=yB a1.2.1;bnd (yl r1.2.1 r69) fun r70 =>bnd (yaZ r70.2.1) fun r71 =>bnd (yd1 a1 r70.1.1 r71.1.1) fun r72 =>some ((),(r71.2.1,r72.2.1,())) else k19 else bif(r1.1.1==2)then bif(r1.1.1==2)then let r136:=yB a1.2.1;bnd (yl r1.2.1 r136) fun r137 =>bnd (yaZ r137.2.1) fun r138 =>bnd (yd1 a1 r137.1.1 r138.1.1) fun r139 =>some ((),(r138.2.1,r139.2.1,())) else k19 else bif(r1.1.1==3)then let r203:=yB a1.2.1;bnd (yl r1.2.1 r203) fun r204 =>bnd (yaZ r204.2.1) fun r205 =>bnd (yd1 a1 r204.1.1 r205.1.1) fun r206 =>some ((),(r205.2.1,r206.2.1,())) else k19
theorem yWi:ConOk prog 163 ⟨yv,yw,fun x=>yfS x.1 x.2.1⟩:=zkI (yRa) func163 ntmps163.symm fun x=>by kernel_rfl
def yu2:Con:=⟨yv,yw,fun x=>yfS x.1 x.2.1⟩
theorem yIJ:ConOk prog 163 yu2:=yWi
def yyN (a:dA) (z:Option (zaY yw×zak yv)):Prop:= ∃(u':dU) (a':dA),z=some ((),(u',a',()))∧ybV u'∧Turned a a'
def y35 (u:dU) (a:dA):Option (zaY yw×zak yv) :=bnd (yl u (yB a.2.1)) fun r3=>bnd (yaZ r3.2.1) fun r4=>bnd (yd1 a r3.1.1 r4.1.1) fun r5=>some ((),(r4.2.1,r5.2.1,()))
def yZ7 (u:dU) (a:dA):Option (zaY yw×zak yv) :=bnd (yl u a.2.1.2) fun r6=>bnd (ydk a r6.1.1) fun r7=>some ((),(r6.2.1,r7.2.1,()))
def y3d (u:dU) (a:dA):Option (zaY yw×zak yv) :=bnd (ycq u 3) fun r9=>bif r9.1.1 then(bif(a.2.2.2.1==(-1))then(bnd (yl r9.2.1 a.2.1.1) fun r10=>bnd (ygT a r10.1.1) fun r11=>some ((),(r10.2.1,r11.2.1,())))else some ((),(r9.2.1,a,())))else some ((),(r9.2.1,a,()))
def yZ8 (u:dU) (a:dA):Option (zaY yw×zak yv) :=bif leb 0 a.2.2.2.1 then(bif inb a.2.2.2.1 a.2.2.1.length then(bif(nth a.2.2.1 a.2.2.2.1 yc).2.2.1 then(bnd (yjq a) fun r12=>some ((),(u,r12.2.1,())))else some ((),(u,a,())))else none)else some ((),(u,a,()))
def y3e (u:dU) (a:dA):Option (zaY yw×zak yv) :=bif leb 0 a.2.2.2.1 then(bif inb a.2.2.2.1 a.2.2.1.length then(bif !(nth a.2.2.1 a.2.2.2.1 yc).2.2.1 then(bif ltb a.2.2.2.2.1 a.2.1.2 then(bnd (ykP a) fun r13=>some ((),(u,r13.2.1,())))else some ((),(u,a,())))else some ((),(u,a,())))else none)else some ((),(u,a,()))
def yM0 (u:dU) (a:dA):Option (zaY yw×zak yv) :=bif(a.2.2.2.1==(-1))then(bnd (ycq u 3) fun r15=>bif r15.1.1 then(bnd (yl r15.2.1 a.2.1.1) fun r16=>bif inb r16.1.1 a.2.2.1.length then(bnd (yl r16.2.1 a.2.1.2) fun r17 =>bif inb r16.1.1 a.2.2.1.length then some ((),(r17.2.1,ybx a r16.1.1 (spoil (nth a.2.2.1 r16.1.1 yc) (yu r17.1.1)),()))else none)else none)else some ((),(r15.2.1,a,())))else some ((),(u,a,()))
theorem yJE {u:dU} {a:dA} (h:yX a) (hk:yF a) (hu:ybV u):yyN a (y35 u a):=by
 have hg:=yj.1 h.1;have hd:=yn4 h.2.2.1 h.1;obtain⟨b,u1,e1,q1,d1⟩:=yaV u (yB a.2.1) hu;obtain⟨x,u2,e2,q2,d2⟩:=y3H u1 d1;have hx:isW x=true:=by rw[ybX]at q2; exact q2
 have hbl:0<yB a.2.1:=by
  rw[yyu h.1];exact Int.mul_pos (by omega) (by omega)
 have hb:yhR a.2.1 b=true:=by
  have:=q1.2.1 hbl;unfold yhR;rw[zk2 q1.1,zk2 (show b≤yB a.2.1-1 by omega)]; rfl
 unfold y35;rw[e1,zkH,e2,zkH,yJ2 a b x (by unfold ykV; rw[yC0.2 ⟨h,hk⟩,hb]; exact decide_eq_true (show a.2.2.2.2.2.2.2.2.1.length≤1000 by omega)),zkH];exact⟨_,_,rfl,d2,.put b x hb hx⟩
theorem yJD {u:dU} {a:dA} (h:yX a) (hu:ybV u):yyN a (yZ7 u a):=by
 have hd:=yn4 h.2.2.1 h.1;obtain⟨s,u1,e1,q1,d1⟩:=yaV u a.2.1.2 hu;unfold yZ7;rw[e1,zkH,yG0 a s (decide_eq_true (show a.2.2.2.2.2.2.2.2.1.length≤1000 by omega)),zkH];exact⟨_,_,rfl,d1,.flush s⟩
theorem y54 {u:dU} {a:dA} (h:yX a) (hu:ybV u):yyN a (bnd (ykR a) fun r8=>some ((),(u,r8.2.1,()))):=by
 have hd:=yn4 h.2.2.1 h.1;rw[yJ1 a (decide_eq_true (show a.2.2.2.2.2.2.2.2.1.length≤1000 by omega)),zkH];exact⟨_,_,rfl,hu,.all⟩
theorem y5g {u:dU} {a:dA} (h:yX a) (hk:yF a) (hu:ybV u):yyN a (y3d u a):=by
 have hg:=yj.1 h.1;have hl:=hk.1.2;obtain⟨r,u1,e1,d1⟩:=y3I u 3 hu;unfold y3d;rw[e1,zkH];cases r
 ·exact⟨_,_,rfl,d1,.same⟩
 ·cases h1:(a.2.2.2.1==(-1))
  ·exact⟨_,_,rfl,d1,.same⟩
  ·obtain⟨m,u2,e2,q2,d2⟩:=yaV u1 a.2.1.1 d1
   have hm:inb m a.2.2.1.length=true:=zj6.2 ⟨q2.1,by have:=q2.2.1 (by omega); omega⟩;simp only[cond_true];rw[e2,zkH,yGY a m hm,zkH];exact⟨_,_,rfl,d2,.fail m (beq_iff_eq.1 h1) hm⟩
theorem y4C {u:dU} {a:dA} (h:yX a) (hk:yF a) (hu:ybV u):yyN a (yZ8 u a):=by
 have hl:=hk.1.2;have hc:=h.2.2.2.1;unfold yZ8;cases h0:leb 0 a.2.2.2.1
 ·exact⟨_,_,rfl,hu,.same⟩
 ·have hi:inb a.2.2.2.1 a.2.2.1.length=true:=zj6.2 ⟨zj7.1 h0,by omega⟩
  rw[hi];cases hf:(nth a.2.2.1 a.2.2.2.1 yc).2.2.1
  ·exact⟨_,_,rfl,hu,.same⟩
  ·simp only[cond_true]
   rw[yS0 a (by unfold yjs; rw[h.1,hi]; rfl),zkH];exact⟨_,_,rfl,hu,.spare hi hf⟩
theorem yZ9 {u:dU} {a:dA} (h:yX a) (hk:yF a) (hu:ybV u):yyN a (y3e u a):=by
 have hl:=hk.1.2;have hc:=h.2.2.2.1;unfold y3e;cases h0:leb 0 a.2.2.2.1
 ·exact⟨_,_,rfl,hu,.same⟩
 ·have h0':=zj7.1 h0
  have hi:inb a.2.2.2.1 a.2.2.1.length=true:=zj6.2 ⟨h0',by omega⟩;rw[hi];cases hf:(nth a.2.2.1 a.2.2.2.1 yc).2.2.1
  ·cases hb:ltb a.2.2.2.2.1 a.2.1.2
   ·exact⟨_,_,rfl,hu,.same⟩
   ·simp only[cond_true,Bool.not_false]
    rw[yWE a (by unfold ykT; rw[h.1,hi,zj6.2 (show 0≤a.2.2.2.1∧a.2.2.2.1<a.2.1.1.toNat by omega)]; rfl),zkH];exact⟨_,_,rfl,hu,.step hi hf (zka.1 hb)⟩
  ·exact⟨_,_,rfl,hu,.same⟩
theorem y4D {u:dU} {a:dA} (h:yX a) (hk:yF a) (hu:ybV u):yyN a (yM0 u a):=by
 have hg:=yj.1 h.1;have hl:=hk.1.2;unfold yM0;cases hlo:(a.2.2.2.1==(-1))
 ·exact⟨_,_,rfl,hu,.same⟩
 ·obtain⟨r,u1,e1,d1⟩:=y3I u 3 hu
  simp only[cond_true];rw[e1,zkH];cases r
  ·exact⟨_,_,rfl,d1,.same⟩
  ·obtain⟨m,u2,e2,q2,d2⟩:=yaV u1 a.2.1.1 d1
   have hm:inb m a.2.2.1.length=true:=zj6.2 ⟨q2.1,by have:=q2.2.1 (by omega); omega⟩;obtain⟨s,u3,e3,q3,d3⟩:=yaV u2 a.2.1.2 d2;simp only[cond_true];rw[e2,zkH];simp only[hm,cond_true];rw[e3,zkH];exact⟨_,_,rfl,d3,.spoil m s (beq_iff_eq.1 hlo) hm q3.1 (q3.2.1 (by omega))⟩
theorem y3K (u:dU) (a:dA) (hu:ybV u) (h:yX a) (hk:yF a):yyN a (yfS u a):=by
 obtain⟨r,u1,e1,q1,d1⟩:=yaV u 14 hu;have hr:=q1.2.1 (by omega);have h0:=q1.1;unfold yfS;rw[e1,zkH];have hc:(r=0∨r=1∨r=2∨r=3)∨(r=4∨r=5∨r=6)∨r=7∨r=8∨r=9∨(r=10∨r=11)∨r=12∨r=13:=by omega
 rcases hc with(rfl | rfl | rfl | rfl) | (rfl | rfl | rfl) | rfl | rfl | rfl | (rfl | rfl) | rfl | rfl
 ·exact yJE h hk d1
 ·exact yJE h hk d1
 ·exact yJE h hk d1
 ·exact yJE h hk d1
 ·exact yJD h d1
 ·exact yJD h d1
 ·exact yJD h d1
 ·exact y54 h d1
 ·exact y5g h hk d1
 ·exact y4C h hk d1
 ·exact yZ9 h hk d1
 ·exact yZ9 h hk d1
 ·refine⟨u1,ym a,?_,d1,.check⟩
  rw[← yJ5]; rfl
 ·have:=y4D h hk d1
  unfold yM0 at this;simp only[← ygV]at this;exact this
def yrb:Code:=(f124.body).getD .skip
def yz4:Env:=zkw TT [(72,yaP),(115,yuW),(116,yxS),(163,yu2)] []
theorem yQ5:FrOk prog ⟨yz4,24,fun _=>none⟩ yrb:=zkA mixed yf ⟨ybw,yIE,yJY,yIJ,trivial⟩
def yFV:Nat→Option Seg:=fun _=>none
def yc4:Shape:=⟨[(0,false,[.ptr 1000000000 0]),(4,false,[.ptr 0 0]),(5,false,[.ptr 4480 0]),(6,false,[ii])],[(0,oK),(4480,oI),(1000000000,oU)],[(800000000,tM,oC),(800000001,tW,oF)]⟩
def yhl:Shape:=⟨[(0,false,[.ptr 1000000000 0]),(4,false,[.ptr 0 0]),(5,false,[.ptr 4480 0]),(6,false,[ii])],[(0,oK),(4480,oI),(1000000000,oU)],[(800000000,tM,oC),(800000001,tW,oF)]⟩
def yha:Shape:=⟨[(4,false,[.ptr 0 0]),(5,false,[.ptr 4480 0])],[(0,oK),(4480,oI),(1000000000,oU)],[(800000000,tM,oC),(800000001,tW,oF)]⟩
def ylp:Shape:=⟨[],[],[]⟩
abbrev yqi (v0:Int) (v1 v2:dA) (v3:dU):(yc4).X:=((((),()),((),()),((),()),(v0,()),()),((v1.1,v1.2.1.1,v1.2.1.2,(),v1.2.2.2.1,v1.2.2.2.2.1,v1.2.2.2.2.2.1,v1.2.2.2.2.2.2.1,v1.2.2.2.2.2.2.2.1,(),v1.2.2.2.2.2.2.2.2.2.1,v1.2.2.2.2.2.2.2.2.2.2.1,v1.2.2.2.2.2.2.2.2.2.2.2,()),(v2.1,v2.2.1.1,v2.2.1.2,(),v2.2.2.2.1,v2.2.2.2.2.1,v2.2.2.2.2.2.1,v2.2.2.2.2.2.2.1,v2.2.2.2.2.2.2.2.1,(),v2.2.2.2.2.2.2.2.2.2.1,v2.2.2.2.2.2.2.2.2.2.2.1,v2.2.2.2.2.2.2.2.2.2.2.2,()),(v3.1,v3.2.1,v3.2.2,()),()),(v2.2.2.1,v2.2.2.2.2.2.2.2.2.1,()))
abbrev yOF (v0:Int) (v1 v2:dA) (v3:dU):(yhl).X:=((((),()),((),()),((),()),(v0,()),()),((v1.1,v1.2.1.1,v1.2.1.2,(),v1.2.2.2.1,v1.2.2.2.2.1,v1.2.2.2.2.2.1,v1.2.2.2.2.2.2.1,v1.2.2.2.2.2.2.2.1,(),v1.2.2.2.2.2.2.2.2.2.1,v1.2.2.2.2.2.2.2.2.2.2.1,v1.2.2.2.2.2.2.2.2.2.2.2,()),(v2.1,v2.2.1.1,v2.2.1.2,(),v2.2.2.2.1,v2.2.2.2.2.1,v2.2.2.2.2.2.1,v2.2.2.2.2.2.2.1,v2.2.2.2.2.2.2.2.1,(),v2.2.2.2.2.2.2.2.2.2.1,v2.2.2.2.2.2.2.2.2.2.2.1,v2.2.2.2.2.2.2.2.2.2.2.2,()),(v3.1,v3.2.1,v3.2.2,()),()),(v2.2.2.1,v2.2.2.2.2.2.2.2.2.1,()))
abbrev yOw (v0 v1:dA) (v2:dU):(yha).X:=((((),()),((),()),()),((v0.1,v0.2.1.1,v0.2.1.2,(),v0.2.2.2.1,v0.2.2.2.2.1,v0.2.2.2.2.2.1,v0.2.2.2.2.2.2.1,v0.2.2.2.2.2.2.2.1,(),v0.2.2.2.2.2.2.2.2.2.1,v0.2.2.2.2.2.2.2.2.2.2.1,v0.2.2.2.2.2.2.2.2.2.2.2,()),(v1.1,v1.2.1.1,v1.2.1.2,(),v1.2.2.2.1,v1.2.2.2.2.1,v1.2.2.2.2.2.1,v1.2.2.2.2.2.2.1,v1.2.2.2.2.2.2.2.1,(),v1.2.2.2.2.2.2.2.2.2.1,v1.2.2.2.2.2.2.2.2.2.2.1,v1.2.2.2.2.2.2.2.2.2.2.2,()),(v2.1,v2.2.1,v2.2.2,()),()),(v1.2.2.1,v1.2.2.2.2.2.2.2.2.1,()))
def yqP (v0 v1 v2 v3 v4 v5 v6 v7 v8 v9:Int) (v10 v11:Bool) (v12 v13 v14 v15 v16 v17 v18 v19 v20:Int) (v21 v22:Bool) (v23:List Int) (v24 v25:Int) (v26:List dM) (v27:List dW):Option ((yc4).X ⊕ ((yha).X ⊕ (ylp).X)) :=bif(ltb 0 v0)then bnd (yfS (v23,v24,v25) (v12,(v13,v14),v26,v15,v16,v17,v18,v19,v27,v20,v21,v22)) fun r6 =>some (.inl ((((),()),((),()),((),()),((i64.wrap (v0-1)),()),()),((v1,v2,v3,(),v4,v5,v6,v7,v8,(),v9,v10,v11,()),(r6.2.2.1.1,r6.2.2.1.2.1.1,r6.2.2.1.2.1.2,(),r6.2.2.1.2.2.2.1,r6.2.2.1.2.2.2.2.1,r6.2.2.1.2.2.2.2.2.1,r6.2.2.1.2.2.2.2.2.2.1,r6.2.2.1.2.2.2.2.2.2.2.1,(),r6.2.2.1.2.2.2.2.2.2.2.2.2.1,r6.2.2.1.2.2.2.2.2.2.2.2.2.2.1,r6.2.2.1.2.2.2.2.2.2.2.2.2.2.2,()),(r6.2.1.1,r6.2.1.2.1,r6.2.1.2.2,()),()),(r6.2.2.1.2.2.1,r6.2.2.1.2.2.2.2.2.2.2.2.1,()))) else some (.inr (.inl ((((),()),((),()),()),((v1,v2,v3,(),v4,v5,v6,v7,v8,(),v9,v10,v11,()),(v12,v13,v14,(),v15,v16,v17,v18,v19,(),v20,v21,v22,()),(v23,v24,v25,()),()),(v26,v27,()))))
def yds (x:(yc4).X):=yqP x.1.2.2.2.1.1 x.2.1.1.1 x.2.1.1.2.1 x.2.1.1.2.2.1 x.2.1.1.2.2.2.2.1 x.2.1.1.2.2.2.2.2.1 x.2.1.1.2.2.2.2.2.2.1 x.2.1.1.2.2.2.2.2.2.2.1 x.2.1.1.2.2.2.2.2.2.2.2.1 x.2.1.1.2.2.2.2.2.2.2.2.2.2.1 x.2.1.1.2.2.2.2.2.2.2.2.2.2.2.1 x.2.1.1.2.2.2.2.2.2.2.2.2.2.2.2.1 x.2.1.2.1.1 x.2.1.2.1.2.1 x.2.1.2.1.2.2.1 x.2.1.2.1.2.2.2.2.1 x.2.1.2.1.2.2.2.2.2.1 x.2.1.2.1.2.2.2.2.2.2.1 x.2.1.2.1.2.2.2.2.2.2.2.1 x.2.1.2.1.2.2.2.2.2.2.2.2.1 x.2.1.2.1.2.2.2.2.2.2.2.2.2.2.1 x.2.1.2.1.2.2.2.2.2.2.2.2.2.2.2.1 x.2.1.2.1.2.2.2.2.2.2.2.2.2.2.2.2.1 x.2.1.2.2.1.1 x.2.1.2.2.1.2.1 x.2.1.2.2.1.2.2.1 x.2.2.1 x.2.2.2.1
def yCd (x:(yhl).X):(yc4).X:=((((),()),((),()),((),()),(x.1.2.2.2.1.1,()),()),((x.2.1.1.1,x.2.1.1.2.1,x.2.1.1.2.2.1,(),x.2.1.1.2.2.2.2.1,x.2.1.1.2.2.2.2.2.1,x.2.1.1.2.2.2.2.2.2.1,x.2.1.1.2.2.2.2.2.2.2.1,x.2.1.1.2.2.2.2.2.2.2.2.1,(),x.2.1.1.2.2.2.2.2.2.2.2.2.2.1,x.2.1.1.2.2.2.2.2.2.2.2.2.2.2.1,x.2.1.1.2.2.2.2.2.2.2.2.2.2.2.2.1,()),(x.2.1.2.1.1,x.2.1.2.1.2.1,x.2.1.2.1.2.2.1,(),x.2.1.2.1.2.2.2.2.1,x.2.1.2.1.2.2.2.2.2.1,x.2.1.2.1.2.2.2.2.2.2.1,x.2.1.2.1.2.2.2.2.2.2.2.1,x.2.1.2.1.2.2.2.2.2.2.2.2.1,(),x.2.1.2.1.2.2.2.2.2.2.2.2.2.2.1,x.2.1.2.1.2.2.2.2.2.2.2.2.2.2.2.1,x.2.1.2.1.2.2.2.2.2.2.2.2.2.2.2.2.1,()),(x.2.1.2.2.1.1,x.2.1.2.2.1.2.1,x.2.1.2.2.1.2.2.1,()),()),(x.2.2.1,x.2.2.2.1,()))
def yEa:Code:=(zd7 yrb 64 116).getD .skip
theorem yQj:zd7 yrb 64 29=some (.block 0 (.loop yEa)):=by kernel_rfl
theorem yTb (x:(yc4).X):zhu ⟨yz4,24,yFV⟩ 0 yEa 116 yc4 yha ylp x=yds x:=by kernel_rfl
def yCo (x:(yhl).X):Nat:=18446744073709551616
def yrT (x:(yhl).X):Option ((yha).X ⊕ (ylp).X):=zF yds (yCo x) (yCd x)
def yCL:Seg:=⟨yhl,yha,ylp,yrT⟩
def yTF:Nat→Option Seg:=fun q=>bif Nat.beq q 29 then some yCL else yFV q
theorem yQ6:FrOk prog ⟨yz4,24,yTF⟩ yrb:=(yQ5).loop (sg:=yCL) yc4 yCd (by decide) yQj yds yCo (by decide) (fun _=>rfl) (fun x r _ h=>h) yTb
abbrev yAq:List Par:= [.pt tU .fz,.rd tI]
abbrev yAX:List OT:= [⟨false,tA,oB⟩]
def yjt (a0:dU) (a1:Int):Option (zaY yAX×zak yAq) :=bnd (yl a0 2) fun r1 =>bnd (ygU r1.2.1) fun r2 =>let r3:=yf4 (i64.wrap (1+r1.1.1)) r2.1.1;bnd (yl r2.2.1 (i64.wrap (a1+1))) fun r4 =>zkt (yrT ((((),()),((),()),((),()),(r4.1.1,()),()),((0,0,0,(),0,0,0,0,0,(),0,false,false,()),(r3.1,r3.2.1.1,r3.2.1.2,(),r3.2.2.2.1,r3.2.2.2.2.1,r3.2.2.2.2.2.1,r3.2.2.2.2.2.2.1,r3.2.2.2.2.2.2.2.1,(),r3.2.2.2.2.2.2.2.2.2.1,r3.2.2.2.2.2.2.2.2.2.2.1,r3.2.2.2.2.2.2.2.2.2.2.2,()),(r4.2.1.1,r4.2.1.2.1,r4.2.1.2.2,()),()),(r3.2.2.1,r3.2.2.2.2.2.2.2.2.1,()))) (fun y6 =>some (((y6.2.1.2.1.1,(y6.2.1.2.1.2.1,y6.2.1.2.1.2.2.1),y6.2.2.1,y6.2.1.2.1.2.2.2.2.1,y6.2.1.2.1.2.2.2.2.2.1,y6.2.1.2.1.2.2.2.2.2.2.1,y6.2.1.2.1.2.2.2.2.2.2.2.1,y6.2.1.2.1.2.2.2.2.2.2.2.2.1,y6.2.2.2.1,y6.2.1.2.1.2.2.2.2.2.2.2.2.2.2.1,y6.2.1.2.1.2.2.2.2.2.2.2.2.2.2.2.1,y6.2.1.2.1.2.2.2.2.2.2.2.2.2.2.2.2.1),()),((y6.2.1.2.2.1.1,y6.2.1.2.2.1.2.1,y6.2.1.2.2.1.2.2.1),()))) (fun y6 =>none)
theorem yWf:ConOk prog 124 ⟨yAq,yAX,fun x=>yjt x.1 x.2.1⟩:=zkI (yQ6) func124 ntmps124.symm fun x=>by kernel_rfl
def yGw:Con:=⟨yAq,yAX,fun x=>yjt x.1 x.2.1⟩
theorem yZl:ConOk prog 124 yGw:=yWf
theorem yZQ {P:Int→dA→Prop} {K:Int} (hP: ∀k a,P k a→yX a∧yF a) (hT: ∀k a b,P k a→Turned a b→k+16≤K→P (k+16) b): ∀(n:Nat) (k:Int) (a:dA) (u:dU) (fuel:Nat),n<fuel→n≤1000→ybV u→P k a→k+16*n≤K →
  ∃(a':dA) (u':dU),zF yds fuel (yqi n yai a u)=some (.inl (yOw yai a' u'))∧ybV u'∧P (k+16*n) a'
 | 0,k,a,u,fuel+1,_,_,hu,h,_=>⟨a,u,by simp only[zF,yds,yqi,yqP]; rfl,hu,by rw[show k+16*((0:Nat):Int)=k by omega]; exact h⟩
 | n+1,k,a,u,fuel+1,hf,hn,hu,h,hk=>by
  obtain⟨hc,hkp⟩:=hP k a h;obtain⟨u1,a1,e1,d1,h1⟩:=y3K u a hu hc hkp;obtain⟨a',u',e2,d2,h2⟩:=yZQ hP hT n (k+16) a1 u1 fuel (by omega) (by omega) d1 (hT k a a1 h h1 (by omega)) (by omega);refine⟨a',u',?_,d2,by rw[show k+16*((n+1:Nat):Int)=k+16+16*(n:Int)by omega]; exact h2⟩;rw[← e2,zF];simp only[yds,yqi,yqP,zky (show(0:Int)<((n+1:Nat):Int)by omega),cond_true,zkX,e1,zkH,show((n+1:Nat):Int)-1=(n:Int)by omega,wq ((n:Int)) (by omega) (by omega)]
theorem y4h {P:Int→dA→Prop} {K:Int} (hP: ∀k a,P k a→yX a∧yF a) (hT: ∀k a b,P k a→Turned a b→k+16≤K→P (k+16) b) (h0P: ∀id g,ye g=true→1≤id→id≤60000→P 0 (ycK id g))
  (u:dU) (most:Int) (h:ybV u) (h0:0≤most) (h1:most≤1000) (hm:16*most≤K): ∃(a:dA) (u':dU) (k:Int),yjt u most=some ((a,()),(u',()))∧P k a∧k≤16*most∧ybV u':=by
 obtain⟨r1,u1,e1,q1,d1⟩:=yaV u 2 h;obtain⟨g,u2,e2,q2,d2⟩:=y2E u1 d1;obtain⟨r3,u3,e3,q3,d3⟩:=yaV u2 (most+1) d2;have:=q1.1; have:=q1.2.1 (by omega); have:=q3.1; have:=q3.2.1 (by omega);have hn:=h0P (1+r1) g q2 (by omega) (by omega);obtain⟨a',u',e4,d4,h4⟩:=yZQ hP hT r3.toNat 0 (ycK (1+r1) g) u3 18446744073709551616 (by omega) (by omega) d3 hn (by omega);rw[show((r3.toNat:Nat):Int)=r3 by omega]at e4;unfold yjt;simp only[e1,e2,zkH,wq (most+1) (by omega) (by omega),e3,wq (1+r1) (by omega) (by omega),yf4];refine⟨a',u',_,?_,h4,by omega,d4⟩;exact(congrArg (fun z=>zkt z _ _) (show yrT (yOF r3 yai (ycK (1+r1) g) u3)=_ from e4)).trans rfl
def ymU:Code:=(f93.body).getD .skip
def ytI:Env:=zkw TT [(72,yaP),(80,ypt),(124,yGw),(163,yu2)] []
theorem yLU:FrOk prog ⟨ytI,29,fun _=>none⟩ ymU:=zkA mixed yf ⟨ybw,yBc,yZl,yIJ,trivial⟩
def yBx:Nat→Option Seg:=fun _=>none
def ybN:Shape:=⟨[(0,false,[.ptr 1000000000 0]),(4,false,[.ptr 0 0]),(5,false,[.ptr 4288 0]),(6,false,[ii])],[(0,oK),(4288,oI),(1000000000,oU)],[(800000000,tM,oC),(800000001,tW,oF)]⟩
def yft:Shape:=⟨[(0,false,[.ptr 1000000000 0]),(4,false,[.ptr 0 0]),(5,false,[.ptr 4288 0]),(6,false,[ii])],[(0,oK),(4288,oI),(1000000000,oU)],[(800000000,tM,oC),(800000001,tW,oF)]⟩
def yfj:Shape:=⟨[(4,false,[.ptr 0 0]),(5,false,[.ptr 4288 0])],[(0,oK),(4288,oI),(1000000000,oU)],[(800000000,tM,oC),(800000001,tW,oF)]⟩
def yi8:Shape:=⟨[],[],[]⟩
abbrev yct (v0:Int) (v1 v2:dA) (v3:dU):(ybN).X:=((((),()),((),()),((),()),(v0,()),()),((v1.1,v1.2.1.1,v1.2.1.2,(),v1.2.2.2.1,v1.2.2.2.2.1,v1.2.2.2.2.2.1,v1.2.2.2.2.2.2.1,v1.2.2.2.2.2.2.2.1,(),v1.2.2.2.2.2.2.2.2.2.1,v1.2.2.2.2.2.2.2.2.2.2.1,v1.2.2.2.2.2.2.2.2.2.2.2,()),(v2.1,v2.2.1.1,v2.2.1.2,(),v2.2.2.2.1,v2.2.2.2.2.1,v2.2.2.2.2.2.1,v2.2.2.2.2.2.2.1,v2.2.2.2.2.2.2.2.1,(),v2.2.2.2.2.2.2.2.2.2.1,v2.2.2.2.2.2.2.2.2.2.2.1,v2.2.2.2.2.2.2.2.2.2.2.2,()),(v3.1,v3.2.1,v3.2.2,()),()),(v2.2.2.1,v2.2.2.2.2.2.2.2.2.1,()))
abbrev yKA (v0:Int) (v1 v2:dA) (v3:dU):(yft).X:=((((),()),((),()),((),()),(v0,()),()),((v1.1,v1.2.1.1,v1.2.1.2,(),v1.2.2.2.1,v1.2.2.2.2.1,v1.2.2.2.2.2.1,v1.2.2.2.2.2.2.1,v1.2.2.2.2.2.2.2.1,(),v1.2.2.2.2.2.2.2.2.2.1,v1.2.2.2.2.2.2.2.2.2.2.1,v1.2.2.2.2.2.2.2.2.2.2.2,()),(v2.1,v2.2.1.1,v2.2.1.2,(),v2.2.2.2.1,v2.2.2.2.2.1,v2.2.2.2.2.2.1,v2.2.2.2.2.2.2.1,v2.2.2.2.2.2.2.2.1,(),v2.2.2.2.2.2.2.2.2.2.1,v2.2.2.2.2.2.2.2.2.2.2.1,v2.2.2.2.2.2.2.2.2.2.2.2,()),(v3.1,v3.2.1,v3.2.2,()),()),(v2.2.2.1,v2.2.2.2.2.2.2.2.2.1,()))
abbrev yKr (v0 v1:dA) (v2:dU):(yfj).X:=((((),()),((),()),()),((v0.1,v0.2.1.1,v0.2.1.2,(),v0.2.2.2.1,v0.2.2.2.2.1,v0.2.2.2.2.2.1,v0.2.2.2.2.2.2.1,v0.2.2.2.2.2.2.2.1,(),v0.2.2.2.2.2.2.2.2.2.1,v0.2.2.2.2.2.2.2.2.2.2.1,v0.2.2.2.2.2.2.2.2.2.2.2,()),(v1.1,v1.2.1.1,v1.2.1.2,(),v1.2.2.2.1,v1.2.2.2.2.1,v1.2.2.2.2.2.1,v1.2.2.2.2.2.2.1,v1.2.2.2.2.2.2.2.1,(),v1.2.2.2.2.2.2.2.2.2.1,v1.2.2.2.2.2.2.2.2.2.2.1,v1.2.2.2.2.2.2.2.2.2.2.2,()),(v2.1,v2.2.1,v2.2.2,()),()),(v1.2.2.1,v1.2.2.2.2.2.2.2.2.1,()))
def yeL (v0 v1 v2 v3 v4 v5 v6 v7 v8 v9:Int) (v10 v11:Bool) (v12 v13 v14 v15 v16 v17 v18 v19 v20:Int) (v21 v22:Bool) (v23:List Int) (v24 v25:Int) (v26:List dM) (v27:List dW):Option ((ybN).X ⊕ ((yfj).X ⊕ (yi8).X)) :=bif(ltb 0 v0)then bif(!v21)then bnd (yfS (v23,v24,v25) (v12,(v13,v14),v26,v15,v16,v17,v18,v19,v27,v20,v21,v22)) fun r5 =>some (.inl ((((),()),((),()),((),()),((i64.wrap (v0-1)),()),()),((v1,v2,v3,(),v4,v5,v6,v7,v8,(),v9,v10,v11,()),(r5.2.2.1.1,r5.2.2.1.2.1.1,r5.2.2.1.2.1.2,(),r5.2.2.1.2.2.2.1,r5.2.2.1.2.2.2.2.1,r5.2.2.1.2.2.2.2.2.1,r5.2.2.1.2.2.2.2.2.2.1,r5.2.2.1.2.2.2.2.2.2.2.1,(),r5.2.2.1.2.2.2.2.2.2.2.2.2.1,r5.2.2.1.2.2.2.2.2.2.2.2.2.2.1,r5.2.2.1.2.2.2.2.2.2.2.2.2.2.2,()),(r5.2.1.1,r5.2.1.2.1,r5.2.1.2.2,()),()),(r5.2.2.1.2.2.1,r5.2.2.1.2.2.2.2.2.2.2.2.1,()))) else some (.inr (.inl ((((),()),((),()),()),((v1,v2,v3,(),v4,v5,v6,v7,v8,(),v9,v10,v11,()),(v12,v13,v14,(),v15,v16,v17,v18,v19,(),v20,v21,v22,()),(v23,v24,v25,()),()),(v26,v27,())))) else some (.inr (.inl ((((),()),((),()),()),((v1,v2,v3,(),v4,v5,v6,v7,v8,(),v9,v10,v11,()),(v12,v13,v14,(),v15,v16,v17,v18,v19,(),v20,v21,v22,()),(v23,v24,v25,()),()),(v26,v27,()))))
def yau (x:(ybN).X):=yeL x.1.2.2.2.1.1 x.2.1.1.1 x.2.1.1.2.1 x.2.1.1.2.2.1 x.2.1.1.2.2.2.2.1 x.2.1.1.2.2.2.2.2.1 x.2.1.1.2.2.2.2.2.2.1 x.2.1.1.2.2.2.2.2.2.2.1 x.2.1.1.2.2.2.2.2.2.2.2.1 x.2.1.1.2.2.2.2.2.2.2.2.2.2.1 x.2.1.1.2.2.2.2.2.2.2.2.2.2.2.1 x.2.1.1.2.2.2.2.2.2.2.2.2.2.2.2.1 x.2.1.2.1.1 x.2.1.2.1.2.1 x.2.1.2.1.2.2.1 x.2.1.2.1.2.2.2.2.1 x.2.1.2.1.2.2.2.2.2.1 x.2.1.2.1.2.2.2.2.2.2.1 x.2.1.2.1.2.2.2.2.2.2.2.1 x.2.1.2.1.2.2.2.2.2.2.2.2.1 x.2.1.2.1.2.2.2.2.2.2.2.2.2.2.1 x.2.1.2.1.2.2.2.2.2.2.2.2.2.2.2.1 x.2.1.2.1.2.2.2.2.2.2.2.2.2.2.2.2.1 x.2.1.2.2.1.1 x.2.1.2.2.1.2.1 x.2.1.2.2.1.2.2.1 x.2.2.1 x.2.2.2.1
def ywp (x:(yft).X):(ybN).X:=((((),()),((),()),((),()),(x.1.2.2.2.1.1,()),()),((x.2.1.1.1,x.2.1.1.2.1,x.2.1.1.2.2.1,(),x.2.1.1.2.2.2.2.1,x.2.1.1.2.2.2.2.2.1,x.2.1.1.2.2.2.2.2.2.1,x.2.1.1.2.2.2.2.2.2.2.1,x.2.1.1.2.2.2.2.2.2.2.2.1,(),x.2.1.1.2.2.2.2.2.2.2.2.2.2.1,x.2.1.1.2.2.2.2.2.2.2.2.2.2.2.1,x.2.1.1.2.2.2.2.2.2.2.2.2.2.2.2.1,()),(x.2.1.2.1.1,x.2.1.2.1.2.1,x.2.1.2.1.2.2.1,(),x.2.1.2.1.2.2.2.2.1,x.2.1.2.1.2.2.2.2.2.1,x.2.1.2.1.2.2.2.2.2.2.1,x.2.1.2.1.2.2.2.2.2.2.2.1,x.2.1.2.1.2.2.2.2.2.2.2.2.1,(),x.2.1.2.1.2.2.2.2.2.2.2.2.2.2.1,x.2.1.2.1.2.2.2.2.2.2.2.2.2.2.2.1,x.2.1.2.1.2.2.2.2.2.2.2.2.2.2.2.2.1,()),(x.2.1.2.2.1.1,x.2.1.2.2.1.2.1,x.2.1.2.2.1.2.2.1,()),()),(x.2.2.1,x.2.2.2.1,()))
def yy0:Code:=(zd7 ymU 64 244).getD .skip
theorem yK9:zd7 ymU 64 61=some (.block 0 (.loop yy0)):=by kernel_rfl
theorem yMU (x:(ybN).X):zhu ⟨ytI,29,yBx⟩ 0 yy0 244 ybN yfj yi8 x=yau x:=by kernel_rfl
def ywA (x:(yft).X):Nat:=18446744073709551616
def ynQ (x:(yft).X):Option ((yfj).X ⊕ (yi8).X):=zF yau (ywA x) (ywp x)
def ywU:Seg:=⟨yft,yfj,yi8,ynQ⟩
def yNw:Nat→Option Seg:=fun q=>bif Nat.beq q 61 then some ywU else yBx q
theorem yLV:FrOk prog ⟨ytI,29,yNw⟩ ymU:=(yLU).loop (sg:=ywU) ybN ywp (by decide) yK9 yau ywA (by decide) (fun _=>rfl) (fun x r _ h=>h) yMU
abbrev yuh:List Par:= [.pt tU .fz,.rd tI]
abbrev yuI:List OT:= [⟨false,tA,oB⟩]
def ygF (a0:dU) (a1:Int):Option (zaY yuI×zak yuh) :=bnd (yjt a0 a1) fun r1 =>bnd (yeZ r1.2.1 ([(-1),0,1,2,3,4,6,8,11,15,20]:List Int)) fun r2 =>bnd (yl r2.2.1 3) fun r3 =>zkt (ynQ ((((),()),((),()),((),()),((i64.wrap (1+r3.1.1)),()),()),((0,0,0,(),0,0,0,0,0,(),0,false,false,()),(r1.1.1.1,r1.1.1.2.1.1,r1.1.1.2.1.2,(),r1.1.1.2.2.2.1,r1.1.1.2.2.2.2.1,r1.1.1.2.2.2.2.2.1,r1.1.1.2.2.2.2.2.2.1,r1.1.1.2.2.2.2.2.2.2.1,(),r2.1.1,r1.1.1.2.2.2.2.2.2.2.2.2.2.1,r1.1.1.2.2.2.2.2.2.2.2.2.2.2,()),(r3.2.1.1,r3.2.1.2.1,r3.2.1.2.2,()),()),(r1.1.1.2.2.1,r1.1.1.2.2.2.2.2.2.2.2.1,()))) (fun y5 =>some (((y5.2.1.2.1.1,(y5.2.1.2.1.2.1,y5.2.1.2.1.2.2.1),y5.2.2.1,y5.2.1.2.1.2.2.2.2.1,y5.2.1.2.1.2.2.2.2.2.1,y5.2.1.2.1.2.2.2.2.2.2.1,y5.2.1.2.1.2.2.2.2.2.2.2.1,y5.2.1.2.1.2.2.2.2.2.2.2.2.1,y5.2.2.2.1,y5.2.1.2.1.2.2.2.2.2.2.2.2.2.2.1,y5.2.1.2.1.2.2.2.2.2.2.2.2.2.2.2.1,y5.2.1.2.1.2.2.2.2.2.2.2.2.2.2.2.2.1),()),((y5.2.1.2.2.1.1,y5.2.1.2.2.1.2.1,y5.2.1.2.2.1.2.2.1),()))) (fun y5 =>none)
theorem yPi:ConOk prog 93 ⟨yuh,yuI,fun x=>ygF x.1 x.2.1⟩:=zkI (yLV) func93 ntmps93.symm fun x=>by kernel_rfl
def yB4:Con:=⟨yuh,yuI,fun x=>ygF x.1 x.2.1⟩
theorem ySZ:ConOk prog 93 yB4:=yPi
def yTr:Code:=(f53.body).getD .skip
def yTS:Env:=zkw TT [(69,yxQ),(71,yu1),(72,yaP),(79,yEr),(93,yB4)] []
theorem yLG:FrOk prog ⟨yTS,21,fun _=>none⟩ yTr:=zkA mixed yf ⟨yJW,yII,ybw,yWB,ySZ,trivial⟩
abbrev yt8:List Par:= [.kp tYs .fz]
abbrev yuv:List OT:= [⟨false,tA,oB⟩,⟨false,tL,oG⟩,⟨false,tI,.fz⟩]
def ygD (a0:List Int):Option (zaY yuv×zak yt8) :=let r1:=yhB a0;bnd (yhK r1) fun r2 =>bnd (yl r2.2.1 20) fun r3 =>let r4:=ybb a0 24;bnd (ygF r3.2.1 (i64.wrap (6+r4))) fun r5 =>some ((r5.1.1,r2.1.1,r3.1.1,()),())
theorem yO7:ConOk prog 53 ⟨yt8,yuv,fun x=>ygD x.1⟩:=zkI (yLG) func53 ntmps53.symm fun x=>by kernel_rfl
def yBW:Con:=⟨yt8,yuv,fun x=>ygD x.1⟩
theorem ySR:ConOk prog 53 yBW:=yO7
theorem y3T {K x:Int} {V:Int→Int→Int} {a:dA} (h:Lv K V a) (hx: -1≤x∧x≤1000):Lv K V (yhV a x false):=by
 obtain⟨⟨x1,x2,x3,x4,x5,x6,x7,x8,x9⟩,r,n⟩:=h;exact⟨⟨x1,⟨x2.1,hx⟩,rfl,x4,x5,x6,x7,x8,x9⟩,r,⟨n.n,n.z⟩⟩
def Fin (K:Int) (a:dA):Prop:=yF a∧Can K (fun _ _=>True) a
theorem y6D {K:Int} {V:Int→Int→Int} {a:dA} (h:Lv K V a):Fin K a:=⟨h.x.xk,yxJ (y6C h) (Int.le_refl _) (fun _ _ _=>trivial)⟩
theorem yQp {K J:Int} {a:dA} (h:Fin K a) (hj:K≤J):Fin J a:=⟨h.1,yxJ h.2 hj (fun _ _ h=>h)⟩
theorem yPB: ∀(n:Nat) (k:Int) (V:Int→Int→Int) (a:dA) (u:dU) (fuel:Nat),n<fuel→n≤1000→ybV u→Lv k V a→k+16*n≤60000 →
  ∃(a':dA) (u':dU),zF yau fuel (yct n yai a u)=some (.inl (yKr yai a' u'))∧Fin (k+16*n) a'
 | 0,k,V,a,u,fuel+1,_,_,hu,h,_=>⟨a,u,by simp only[zF,yau,yct,yeL]; rfl,yQp (y6D h) (by omega)⟩
 | n+1,k,V,a,u,fuel+1,hf,hn,hu,h,hk=>by
  obtain⟨u1,a1,e1,d1,h1⟩:=y3K u a hu h.x.xc h.x.xk;have ht:=yZZ h h1 (by omega);rcases Bool.eq_false_or_eq_true (ya a1)with hd | hd
  ·refine⟨a1,u1,?_,y3v h.x.xk h.x.xc.1 h1,yxJ (yUg (ht.2 hd)) (by omega) (fun _ _ _=>trivial)⟩
   rw[zF];simp only[yau,yct,yeL,zky (show(0:Int)<((n+1:Nat):Int)by omega),cond_true,zkX,show((n+1:Nat):Int)-1=(n:Int)by omega,wq ((n:Int)) (by omega) (by omega)];rw[yI6 (show a.2.2.2.2.2.2.2.2.2.2.1=false from h.x.xu),e1,zkH];simp only[zkX];obtain⟨fuel,rfl⟩: ∃m,fuel=m+1:=⟨fuel-1,by omega⟩;show zF yau (fuel+1) (yct n yai a1 u1)=_;rw[zF];simp only[yau,yct,yeL,zkX];cases ltb 0 ((n:Nat):Int)
   ·rfl
   ·rw[cond_true,y4L (show a1.2.2.2.2.2.2.2.2.2.2.1=true from hd)]
  ·obtain⟨V1,h2⟩:=ht.1 hd
   obtain⟨a',u',e2,g2⟩:=yPB n (k+16) V1 a1 u1 fuel (by omega) (by omega) d1 h2 (by omega);refine⟨a',u',?_,yQp g2 (by omega)⟩;rw[← e2,zF];simp only[yau,yct,yeL,zky (show(0:Int)<((n+1:Nat):Int)by omega),cond_true,zkX,show((n+1:Nat):Int)-1=(n:Int)by omega,wq ((n:Int)) (by omega) (by omega)];rw[yI6 (show a.2.2.2.2.2.2.2.2.2.2.1=false from h.x.xu),e1,zkH]
theorem y6j (u:dU) (most:Int) (h:ybV u) (h0:0≤most) (h1:most≤30): ∃(a:dA) (u':dU),ygF u most=some ((a,()),(u',()))∧Fin 600 a:=by
 obtain⟨a,u1,k,e1,⟨w1,V,w2⟩,hk,d1⟩:=y4h (P:=fun k a=>Wk k a∧ ∃V,Lv k V a) (K:=480) (fun k a h=>⟨h.1.1,h.1.2.1⟩)
  (fun k a b h ht hk=>by
   obtain⟨hw,V,hi⟩:=h;have hw':=y5q hw ht (by omega)
   exact⟨ydv hw' (by omega),(yZZ hi ht (by omega)).1 hw'.2.2.1.1⟩) (fun id g g1 g2 g3=>⟨y3j g1 g2 g3,_,y42 g1 g2 g3⟩) u most h (by omega) (by omega) (by omega)
 obtain⟨x,u2,e2,q3,d2⟩:=y2D u1 [(-1),0,1,2,3,4,6,8,11,15,20] d1 (by simp);obtain⟨r,u3,e3,q4,d3⟩:=yaV u2 3 d2;simp only[List.mem_cons,List.not_mem_nil,or_false]at q3;have:=q4.1; have:=q4.2.1 (by omega);have hlv:=y3T (x:=x) w2 (by omega);obtain⟨a',u',e4,g1⟩:=yPB (1+r).toNat k V (yhV a x false) u3 18446744073709551616 (by omega) (by omega) d3 hlv (by omega);rw[show(((1+r).toNat:Nat):Int)=1+r by omega]at e4;unfold ygF;simp only[e1,e2,e3,zkH,wq (1+r) (by omega) (by omega)];refine⟨a',u',?_,yQp g1 (by omega)⟩
 have hu:yhV a x false=(a.1,a.2.1,a.2.2.1,a.2.2.2.1,a.2.2.2.2.1,a.2.2.2.2.2.1,a.2.2.2.2.2.2.1,a.2.2.2.2.2.2.2.1,a.2.2.2.2.2.2.2.2.1,x,a.2.2.2.2.2.2.2.2.2.2.1,a.2.2.2.2.2.2.2.2.2.2.2):=by
  unfold yhV;rw[show a.2.2.2.2.2.2.2.2.2.2.1=false from w2.x.xu]
 rw[hu]at e4;exact(congrArg (fun z=>zkt z _ _) (show ynQ (yKA (1+r) yai (a.1,a.2.1,a.2.2.1,a.2.2.2.1,a.2.2.2.2.1,a.2.2.2.2.2.1,a.2.2.2.2.2.2.1,a.2.2.2.2.2.2.2.1,a.2.2.2.2.2.2.2.2.1,x,a.2.2.2.2.2.2.2.2.2.2.1,a.2.2.2.2.2.2.2.2.2.2.2) u3)=_ from e4)).trans rfl
theorem y3q (a0:List Int) (hb:a0.length≤140737488355328): ∃(a:dA) (ks:List Int) (n:Int),ygD a0=some ((a,ks,n,()),())∧Fin 600 a∧0≤n∧n<20:=by
 unfold ygD;obtain⟨h1,h2⟩:=y3J a0 24 (by omega) hb;obtain⟨ks,u1,e1,q1,d1⟩:=y4i _ (y4O a0 hb);obtain⟨n,u2,e2,q2,d2⟩:=yaV u1 20 d1;obtain⟨a,u3,e3,q3⟩:=y6j u2 (6+ybb a0 24) d2 (by omega) (by omega);simp only[e1,e2,e3,zkH,wq (6+ybb a0 24) (by omega) (by omega)];exact⟨a,ks,n,rfl,q3,q2.1,q2.2.1 (by omega)⟩
def yq7:Code:=(f68.body).getD .skip
def yz0:Env:=zkw TT [(138,yxN),(142,yuO)] []
theorem yQt:FrOk prog ⟨yz0,39,fun _=>none⟩ yq7:=zkA mixed yf ⟨yJT,yIy,trivial⟩
def yFP:Nat→Option Seg:=fun _=>none
def yca:Shape:=⟨[(1,false,[ii]),(2,false,[.ptr 0 0]),(6,false,[.at 800000000]),(8,false,[.at 800000001]),(22,false,[ii]),(23,false,[ii])],[(0,oJ)],[(800000000,tI,.fz),(800000001,tI,.fz)]⟩
def ygj:Shape:=⟨[(1,false,[ii]),(2,false,[.ptr 0 0]),(6,false,[.at 800000000]),(8,false,[.at 800000001]),(22,false,[ii]),(23,false,[.ci .i64 0])],[(0,oJ)],[(800000000,tI,.fz),(800000001,tI,.fz)]⟩
def yf7:Shape:=⟨[(8,false,[.at 800000000])],[],[(800000000,tI,.fz)]⟩
def yjL:Shape:=⟨[],[],[]⟩
abbrev yoe (v0 v1 v2:Int) (v3:dA) (v4 v5:List Int):(yca).X:=(((v0,()),((),()),((),()),((),()),(v1,()),(v2,()),()),((v3.1,v3.2.1.1,v3.2.1.2,v3.2.2.1,v3.2.2.2.1,v3.2.2.2.2.1,v3.2.2.2.2.2.1,v3.2.2.2.2.2.2.1,v3.2.2.2.2.2.2.2.1,v3.2.2.2.2.2.2.2.2.1,v3.2.2.2.2.2.2.2.2.2.1,v3.2.2.2.2.2.2.2.2.2.2.1,v3.2.2.2.2.2.2.2.2.2.2.2,()),()),(v4,v5,()))
abbrev yMa (v0 v1:Int) (v2:dA) (v3 v4:List Int):(ygj).X:=(((v0,()),((),()),((),()),((),()),(v1,()),((),()),()),((v2.1,v2.2.1.1,v2.2.1.2,v2.2.2.1,v2.2.2.2.1,v2.2.2.2.2.1,v2.2.2.2.2.2.1,v2.2.2.2.2.2.2.1,v2.2.2.2.2.2.2.2.1,v2.2.2.2.2.2.2.2.2.1,v2.2.2.2.2.2.2.2.2.2.1,v2.2.2.2.2.2.2.2.2.2.2.1,v2.2.2.2.2.2.2.2.2.2.2.2,()),()),(v3,v4,()))
abbrev yzA (v0:List Int):(yf7).X:=((((),()),()),(),(v0,()))
def yoG (v0 v1 v2 v3 v4 v5:Int) (v6:List dM) (v7 v8 v9 v10 v11:Int) (v12:List dW) (v13:Int) (v14 v15:Bool) (v16 v17:List Int):Option ((yca).X ⊕ ((yf7).X ⊕ (yjL).X)) :=bif(ltb v2 v1)then let r3:=yf0 (v4,v5) v0 v2;bif(inb r3 v16.length)then bif(zkl v17.length ([(nth v16 r3 0)]:List Int).length 8)then some (.inl (((v0,()),((),()),((),()),((),()),(v1,()),((i64.wrap (v2+1)),()),()),((v3,v4,v5,v6,v7,v8,v9,v10,v11,v12,v13,v14,v15,()),()),(v16,(v17++([(nth v16 r3 0)]:List Int)),()))) else none else none else some (.inr (.inl ((((),()),()),(),(v17,()))))
def ycu (x:(yca).X):=yoG x.1.1.1 x.1.2.2.2.2.1.1 x.1.2.2.2.2.2.1.1 x.2.1.1.1 x.2.1.1.2.1 x.2.1.1.2.2.1 x.2.1.1.2.2.2.1 x.2.1.1.2.2.2.2.1 x.2.1.1.2.2.2.2.2.1 x.2.1.1.2.2.2.2.2.2.1 x.2.1.1.2.2.2.2.2.2.2.1 x.2.1.1.2.2.2.2.2.2.2.2.1 x.2.1.1.2.2.2.2.2.2.2.2.2.1 x.2.1.1.2.2.2.2.2.2.2.2.2.2.1 x.2.1.1.2.2.2.2.2.2.2.2.2.2.2.1 x.2.1.1.2.2.2.2.2.2.2.2.2.2.2.2.1 x.2.2.1 x.2.2.2.1
def yy6 (x:(ygj).X):(yca).X:=(((x.1.1.1,()),((),()),((),()),((),()),(x.1.2.2.2.2.1.1,()),(0,()),()),((x.2.1.1.1,x.2.1.1.2.1,x.2.1.1.2.2.1,x.2.1.1.2.2.2.1,x.2.1.1.2.2.2.2.1,x.2.1.1.2.2.2.2.2.1,x.2.1.1.2.2.2.2.2.2.1,x.2.1.1.2.2.2.2.2.2.2.1,x.2.1.1.2.2.2.2.2.2.2.2.1,x.2.1.1.2.2.2.2.2.2.2.2.2.1,x.2.1.1.2.2.2.2.2.2.2.2.2.2.1,x.2.1.1.2.2.2.2.2.2.2.2.2.2.2.1,x.2.1.1.2.2.2.2.2.2.2.2.2.2.2.2.1,()),()),(x.2.2.1,x.2.2.2.1,()))
def yBy:Code:=(zd7 yq7 64 500).getD .skip
theorem yNA:zd7 yq7 64 125=some (.block 0 (.loop yBy)):=by kernel_rfl
theorem yPn (x:(yca).X):zhu ⟨yz0,39,yFP⟩ 0 yBy 500 yca yf7 yjL x=ycu x:=by kernel_rfl
def yzl (x:(ygj).X):Nat:=18446744073709551616
def ypN (x:(ygj).X):Option ((yf7).X ⊕ (yjL).X):=zF ycu (yzl x) (yy6 x)
def yzL:Seg:=⟨ygj,yf7,yjL,ypN⟩
def yTz:Nat→Option Seg:=fun q=>bif Nat.beq q 125 then some yzL else yFP q
theorem yQu:FrOk prog ⟨yz0,39,yTz⟩ yq7:=(yQt).loop (sg:=yzL) yca yy6 (by decide) yNA ycu yzl (by decide) (fun _=>rfl) (fun x r _ h=>h) yPn
abbrev yrg:List Par:= [.rd tA,.rd tI]
abbrev yAv:List OT:= [⟨false,tL,oG⟩,⟨false,tB,.fz⟩]
def yvA (a0:dA) (a1:Int):Option (zaY yAv×zak yrg) :=let r1:=yhy a0 a1;bif(!r1.2)then some (([],false,()),()) else zkt (ypN (((a1,()),((),()),((),()),((),()),((i64.wrap (a0.2.1.1-1)),()),((),()),()),((a0.1,a0.2.1.1,a0.2.1.2,a0.2.2.1,a0.2.2.2.1,a0.2.2.2.2.1,a0.2.2.2.2.2.1,a0.2.2.2.2.2.2.1,a0.2.2.2.2.2.2.2.1,a0.2.2.2.2.2.2.2.2.1,a0.2.2.2.2.2.2.2.2.2.1,a0.2.2.2.2.2.2.2.2.2.2.1,a0.2.2.2.2.2.2.2.2.2.2.2,()),()),(r1.1,([]:List Int),()))) (fun y3 =>some ((y3.2.2.1,true,()),())) (fun y3 =>none)
theorem yVL:ConOk prog 68 ⟨yrg,yAv,fun x=>yvA x.1 x.2.1⟩:=zkI (yQu) func68 ntmps68.symm fun x=>by kernel_rfl
def yl2 (a0:dA) (a1:Int):List Int×Bool:=ydU a0 a1
theorem yX9 (a0:dA) (a1:Int) (hk:zjx yrg (a0,a1,())):yvA a0 a1=(fun n=>some ((n.1,n.2,()),())) (yl2 a0 a1):=by
 unfold yvA yl2 ydU yhy;cases hc:(yM a0&&(!a0.2.2.2.2.2.2.2.2.2.2.2&&yaj a0.2.1 a1))
 ·rfl
 simp only[Bool.and_eq_true]at hc;have hg:=yj.1 (yen hc.1);have hs:=hc.2.2;unfold yrA;simp only[cond_true];cases hw:(yK a0 a1).2
 ·rfl
 ·have hL:=yHm hw
  have h1:ypN (yMa a1 (a0.2.1.1-1) a0 (yK a0 a1).1 [])=some (.inl (yzA ((List.range (a0.2.1.1-1).toNat).foldl (fun l (i:Nat)=>l++ [nth (yK a0 a1).1 (ybP a0.2.1 a1 i) 0]) []))) :=
   zkD (step:=ycu) (a0.2.1.1-1).toNat (fun i s=>yoe a1 (a0.2.1.1-1) i a0 (yK a0 a1).1 s) (fun l (i:Nat)=>l++ [nth (yK a0 a1).1 (ybP a0.2.1 a1 i) 0]) (fun i s=>s.length=i) (fun s=> .inl (yzA s)) (fun i s hi hs2=>⟨by
    have hd:=yXP hs (show(0:Int)≤i by omega) (show(i:Int)≤a0.2.1.1-2 by omega);simp only[ycu,yoe,yoG,zky (show(i:Int)<a0.2.1.1-1 by omega),cond_true,wq ((i:Int)+1) (by omega) (by omega),Int.natCast_add,Int.natCast_one,Int.toNat_natCast,zkX,yf0,zj6.2 (show 0≤ybP a0.2.1 a1 i∧ybP a0.2.1 a1 i<(yK a0 a1).1.length by omega)]
    rw[zkF.2 (show(s.length+ [nth (yK a0 a1).1 (ybP a0.2.1 a1 i) 0].length)*8≤140737488355328 by simp only[List.length_cons,List.length_nil]; omega)]; rfl,by simp[hs2]⟩) (fun s hs2=>by simp only[ycu,yoe,yoG,zk3 (show a0.2.1.1-1≤((a0.2.1.1-1).toNat:Int)by omega),cond_false]) [] rfl _ (by show _<18446744073709551616; omega)
  simp only[wq (a0.2.1.1-1) (by omega) (by omega)];rw[h1,ypv]; rfl
def yGi:Con:=⟨yrg,yAv,fun x=>(fun n=>some ((n.1,n.2,()),())) (yl2 x.1 x.2.1)⟩
theorem yY7:ConOk prog 68 yGi:=(yVL).mono (fun x r hk h=>(yX9 x.1 x.2.1 hk).trans h)
def yoV:Code:=(f54.body).getD .skip
def ywZ:Env:=zkw TT [(68,yGi),(123,yku)] []
theorem yNO:FrOk prog ⟨ywZ,32,fun _=>none⟩ yoV:=zkA mixed yf ⟨yY7,yrF,trivial⟩
def yC4:Nat→Option Seg:=fun _=>none
def ycb:Shape:=⟨[(1,false,[.ptr 0 0]),(3,false,[.at 800000000]),(15,false,[ii]),(16,false,[ii])],[(0,oJ)],[(800000000,tI,.fz)]⟩
def ygk:Shape:=⟨[(1,false,[.ptr 0 0]),(3,false,[.at 800000000]),(15,false,[ii]),(16,false,[.ci .i64 0])],[(0,oJ)],[(800000000,tI,.fz)]⟩
def yf8:Shape:=⟨[(3,false,[.at 800000000])],[],[(800000000,tI,.fz)]⟩
def ygv:Shape:=⟨[(2,false,[.nil])],[],[]⟩
abbrev yof (v0 v1:Int) (v2:dA) (v3:List Int):(ycb).X:=((((),()),((),()),(v0,()),(v1,()),()),((v2.1,v2.2.1.1,v2.2.1.2,v2.2.2.1,v2.2.2.2.1,v2.2.2.2.2.1,v2.2.2.2.2.2.1,v2.2.2.2.2.2.2.1,v2.2.2.2.2.2.2.2.1,v2.2.2.2.2.2.2.2.2.1,v2.2.2.2.2.2.2.2.2.2.1,v2.2.2.2.2.2.2.2.2.2.2.1,v2.2.2.2.2.2.2.2.2.2.2.2,()),()),(v3,()))
abbrev yMb (v0:Int) (v1:dA) (v2:List Int):(ygk).X:=((((),()),((),()),(v0,()),((),()),()),((v1.1,v1.2.1.1,v1.2.1.2,v1.2.2.1,v1.2.2.2.1,v1.2.2.2.2.1,v1.2.2.2.2.2.1,v1.2.2.2.2.2.2.1,v1.2.2.2.2.2.2.2.1,v1.2.2.2.2.2.2.2.2.1,v1.2.2.2.2.2.2.2.2.2.1,v1.2.2.2.2.2.2.2.2.2.2.1,v1.2.2.2.2.2.2.2.2.2.2.2,()),()),(v2,()))
abbrev yzB (v0:List Int):(yf8).X:=((((),()),()),(),(v0,()))
abbrev yMm  :(ygv).X:=((((),()),()),(),())
def yoH (v0 v1 v2 v3 v4:Int) (v5:List dM) (v6 v7 v8 v9 v10:Int) (v11:List dW) (v12:Int) (v13 v14:Bool) (v15:List Int):Option ((ycb).X ⊕ ((yf8).X ⊕ (ygv).X)) :=bif(ltb v1 v0)then let r3:=yl2 (v2,(v3,v4),v5,v6,v7,v8,v9,v10,v11,v12,v13,v14) v1;bif(!r3.2)then some (.inr (.inr ((((),()),()),(),()))) else bif(zkl v15.length r3.1.length 8)then some (.inl ((((),()),((),()),(v0,()),((i64.wrap (v1+1)),()),()),((v2,v3,v4,v5,v6,v7,v8,v9,v10,v11,v12,v13,v14,()),()),((v15++r3.1),()))) else none else some (.inr (.inl ((((),()),()),(),(v15,()))))
def ycv (x:(ycb).X):=yoH x.1.2.2.1.1 x.1.2.2.2.1.1 x.2.1.1.1 x.2.1.1.2.1 x.2.1.1.2.2.1 x.2.1.1.2.2.2.1 x.2.1.1.2.2.2.2.1 x.2.1.1.2.2.2.2.2.1 x.2.1.1.2.2.2.2.2.2.1 x.2.1.1.2.2.2.2.2.2.2.1 x.2.1.1.2.2.2.2.2.2.2.2.1 x.2.1.1.2.2.2.2.2.2.2.2.2.1 x.2.1.1.2.2.2.2.2.2.2.2.2.2.1 x.2.1.1.2.2.2.2.2.2.2.2.2.2.2.1 x.2.1.1.2.2.2.2.2.2.2.2.2.2.2.2.1 x.2.2.1
def yy7 (x:(ygk).X):(ycb).X:=((((),()),((),()),(x.1.2.2.1.1,()),(0,()),()),((x.2.1.1.1,x.2.1.1.2.1,x.2.1.1.2.2.1,x.2.1.1.2.2.2.1,x.2.1.1.2.2.2.2.1,x.2.1.1.2.2.2.2.2.1,x.2.1.1.2.2.2.2.2.2.1,x.2.1.1.2.2.2.2.2.2.2.1,x.2.1.1.2.2.2.2.2.2.2.2.1,x.2.1.1.2.2.2.2.2.2.2.2.2.1,x.2.1.1.2.2.2.2.2.2.2.2.2.2.1,x.2.1.1.2.2.2.2.2.2.2.2.2.2.2.1,x.2.1.1.2.2.2.2.2.2.2.2.2.2.2.2.1,()),()),(x.2.2.1,()))
def yBz:Code:=(zd7 yoV 64 244).getD .skip
theorem yNB:zd7 yoV 64 61=some (.block 0 (.loop yBz)):=by kernel_rfl
theorem yPo (x:(ycb).X):zhu ⟨ywZ,32,yC4⟩ 0 yBz 244 ycb yf8 ygv x=ycv x:=by kernel_rfl
def yzm (x:(ygk).X):Nat:=18446744073709551616
def ypO (x:(ygk).X):Option ((yf8).X ⊕ (ygv).X):=zF ycv (yzm x) (yy7 x)
def yzM:Seg:=⟨ygk,yf8,ygv,ypO⟩
def yPU:Nat→Option Seg:=fun q=>bif Nat.beq q 61 then some yzM else yC4 q
theorem yNP:FrOk prog ⟨ywZ,32,yPU⟩ yoV:=(yNO).loop (sg:=yzM) ycb yy7 (by decide) yNB ycv yzm (by decide) (fun _=>rfl) (fun x r _ h=>h) yPo
abbrev yo7:List Par:= [.rd tA]
abbrev yxp:List OT:= [⟨false,tL,oG⟩]
def yst (a0:dA):Option (zaY yxp×zak yo7) :=let r1:=ydW a0.2.1;bif(!r1)then some ((([]:List Int),()),()) else zkt (ypO ((((),()),((),()),(a0.2.1.2,()),((),()),()),((a0.1,a0.2.1.1,a0.2.1.2,a0.2.2.1,a0.2.2.2.1,a0.2.2.2.2.1,a0.2.2.2.2.2.1,a0.2.2.2.2.2.2.1,a0.2.2.2.2.2.2.2.1,a0.2.2.2.2.2.2.2.2.1,a0.2.2.2.2.2.2.2.2.2.1,a0.2.2.2.2.2.2.2.2.2.2.1,a0.2.2.2.2.2.2.2.2.2.2.2,()),()),(([]:List Int),()))) (fun y3 =>some ((y3.2.2.1,()),())) (fun y3 =>some (([],()),()))
theorem ySh:ConOk prog 54 ⟨yo7,yxp,fun x=>yst x.1⟩:=zkI (yNP) func54 ntmps54.symm fun x=>by kernel_rfl
def ydi (a0:dA):List Int:=ypu a0
theorem yVk (a0:dA) (hk:zjx yo7 (a0,())):yst a0=(fun n=>some ((n,()),())) (ydi a0):=by
 unfold yst ydi ypu;rw[yLW];cases hg0:ye a0.2.1
 ·rw[show yM a0=false by unfold yM; rw[hg0]; rfl]; rfl
 have hg:=yj.1 hg0
 have h1:ypO (yMb a0.2.1.2 a0 [])=some (bif(List.range a0.2.1.2.toNat).all (fun(s:Nat)=>(ydU a0 s).2)then .inl (yzB ((List.range a0.2.1.2.toNat).foldl (fun l (s:Nat)=>l++(ydU a0 s).1) []))else .inr (yMm)) :=
  zhU (step:=ycv) a0.2.1.2.toNat (fun i s=>yof a0.2.1.2 i a0 s) (fun(s:Nat)=>(ydU a0 s).2) (fun l (s:Nat)=>l++(ydU a0 s).1) (fun i s=>s.length≤4*i) (fun s=> .inl (yzB s)) _ (fun i s hi hs=>by
   have:=y4e i hg0;refine⟨?_,fun _=>by rw[List.length_append]; omega⟩;simp only[ycv,yof,yoH,zky (show(i:Int)<a0.2.1.2 by omega),cond_true,wq ((i:Int)+1) (by omega) (by omega),Int.natCast_add,Int.natCast_one,Int.toNat_natCast,zkX,yl2,zkF.2 (show(s.length+(ydU a0 i).1.length)*8≤140737488355328 by omega)]
   cases(ydU a0 i).2<;>rfl) (fun s hs=>by simp only[ycv,yof,yoH,zk3 (show a0.2.1.2≤(a0.2.1.2.toNat:Int)by omega),cond_false]) [] (Nat.zero_le _) _ (by show _<18446744073709551616; omega)
 rw[h1,yZT];cases ha:yM a0
 ·have:(List.range a0.2.1.2.toNat).all (fun(s:Nat)=>(ydU a0 s).2)=false:=by
   rw[List.all_eq_false];refine⟨0,List.mem_range.2 (by omega),?_⟩;unfold ydU;rw[ha]; simp
  rw[this]; rfl
 ·cases(List.range a0.2.1.2.toNat).all (fun(s:Nat)=>(ydU a0 s).2)<;>rfl
def yEe:Con:=⟨yo7,yxp,fun x=>(fun n=>some ((n,()),())) (ydi x.1)⟩
theorem yWo:ConOk prog 54 yEe:=(ySh).mono (fun x r hk h=>(yVk x.1 hk).trans h)
def yia:Code:=(f11.body).getD .skip
def ynF:Env:=zkw TT [(14,yLe),(19,yEh),(34,yBQ),(45,yBX),(46,yBN),(47,yJK),(48,yJL),(49,yBV),(53,yBW),(54,yEe),(63,yn1),(64,yxK)] []
theorem yIm:FrOk prog ⟨ynF,142,fun _=>none⟩ yia:=zkA mixed yf ⟨y3y,yWr,ySL,ySS,ySI,y21,y22,ySQ,ySR,yWo,yCx,yJQ,trivial⟩
def ytu:Nat→Option Seg:=fun _=>none
def yaG:Shape:=⟨[(3,false,[.ptr 12608 0]),(8,false,[.at 800000000]),(11,false,[.ptr 33408 0])],[(12608,oM),(33408,oR)],[(800000000,tI,.fz),(800000001,tM,oC),(800000002,tW,oF),(800000003,tM,oA),(800000004,tW,oE)]⟩
def yb8:Shape:=⟨[(3,false,[.ptr 12608 0]),(8,false,[.at 800000000]),(11,false,[.ptr 33408 0])],[(12608,oM),(33408,oR)],[(800000000,tI,.fz),(800000001,tM,oC),(800000002,tW,oF),(800000003,tM,oA),(800000004,tW,oE)]⟩
def yb7:Shape:=⟨[(3,false,[.ptr 12608 0]),(8,false,[.at 800000000]),(11,false,[.ptr 33408 0])],[(12608,oM),(33408,oR)],[(800000000,tI,.fz),(800000001,tM,oC),(800000002,tW,oF),(800000003,tM,oA),(800000004,tW,oE)]⟩
def yew:Shape:=⟨[(2,false,[.bool])],[],[]⟩
abbrev ydV (v0 v1:dA) (v2:List Int):(yaG).X:=((((),()),((),()),((),()),()),((v0.1,v0.2.1.1,v0.2.1.2,(),v0.2.2.2.1,v0.2.2.2.2.1,v0.2.2.2.2.2.1,v0.2.2.2.2.2.2.1,v0.2.2.2.2.2.2.2.1,(),v0.2.2.2.2.2.2.2.2.2.1,v0.2.2.2.2.2.2.2.2.2.2.1,v0.2.2.2.2.2.2.2.2.2.2.2,()),(v1.1,v1.2.1.1,v1.2.1.2,(),v1.2.2.2.1,v1.2.2.2.2.1,v1.2.2.2.2.2.1,v1.2.2.2.2.2.2.1,v1.2.2.2.2.2.2.2.1,(),v1.2.2.2.2.2.2.2.2.2.1,v1.2.2.2.2.2.2.2.2.2.2.1,v1.2.2.2.2.2.2.2.2.2.2.2,()),()),(v2,v0.2.2.1,v0.2.2.2.2.2.2.2.2.1,v1.2.2.1,v1.2.2.2.2.2.2.2.2.1,()))
abbrev yE8 (v0 v1:dA) (v2:List Int):(yb8).X:=((((),()),((),()),((),()),()),((v0.1,v0.2.1.1,v0.2.1.2,(),v0.2.2.2.1,v0.2.2.2.2.1,v0.2.2.2.2.2.1,v0.2.2.2.2.2.2.1,v0.2.2.2.2.2.2.2.1,(),v0.2.2.2.2.2.2.2.2.2.1,v0.2.2.2.2.2.2.2.2.2.2.1,v0.2.2.2.2.2.2.2.2.2.2.2,()),(v1.1,v1.2.1.1,v1.2.1.2,(),v1.2.2.2.1,v1.2.2.2.2.1,v1.2.2.2.2.2.1,v1.2.2.2.2.2.2.1,v1.2.2.2.2.2.2.2.1,(),v1.2.2.2.2.2.2.2.2.2.1,v1.2.2.2.2.2.2.2.2.2.2.1,v1.2.2.2.2.2.2.2.2.2.2.2,()),()),(v2,v0.2.2.1,v0.2.2.2.2.2.2.2.2.1,v1.2.2.1,v1.2.2.2.2.2.2.2.2.1,()))
abbrev yoq (v0 v1:dA) (v2:List Int):(yb7).X:=((((),()),((),()),((),()),()),((v0.1,v0.2.1.1,v0.2.1.2,(),v0.2.2.2.1,v0.2.2.2.2.1,v0.2.2.2.2.2.1,v0.2.2.2.2.2.2.1,v0.2.2.2.2.2.2.2.1,(),v0.2.2.2.2.2.2.2.2.2.1,v0.2.2.2.2.2.2.2.2.2.2.1,v0.2.2.2.2.2.2.2.2.2.2.2,()),(v1.1,v1.2.1.1,v1.2.1.2,(),v1.2.2.2.1,v1.2.2.2.2.1,v1.2.2.2.2.2.1,v1.2.2.2.2.2.2.1,v1.2.2.2.2.2.2.2.1,(),v1.2.2.2.2.2.2.2.2.2.1,v1.2.2.2.2.2.2.2.2.2.2.1,v1.2.2.2.2.2.2.2.2.2.2.2,()),()),(v2,v0.2.2.1,v0.2.2.2.2.2.2.2.2.1,v1.2.2.1,v1.2.2.2.2.2.2.2.2.1,()))
def yd3 (v0 v1 v2 v3 v4 v5 v6 v7 v8:Int) (v9 v10:Bool) (v11 v12 v13 v14 v15 v16 v17 v18 v19:Int) (v20 v21:Bool) (v22:List Int) (v23:List dM) (v24:List dW) (v25:List dM) (v26:List dW):Option ((yaG).X ⊕ ((yb7).X ⊕ (yew).X)) :=bif(leb 0 v14)then bif(inb v14 v25.length)then bif(!((((nth v25 v14 ([],[],false,[])).2).2).1))then bif(ltb v15 v13)then let r11:=yc8 (v11,(v12,v13),v25,v14,v15,v16,v17,v18,v26,v19,v20,v21);bif(r11.2 !=0)then some (.inr (.inr (((false,()),()),(),()))) else some (.inl ((((),()),((),()),((),()),()),((v0,v1,v2,(),v3,v4,v5,v6,v7,(),v8,v9,v10,()),(r11.1.1,r11.1.2.1.1,r11.1.2.1.2,(),r11.1.2.2.2.1,r11.1.2.2.2.2.1,r11.1.2.2.2.2.2.1,r11.1.2.2.2.2.2.2.1,r11.1.2.2.2.2.2.2.2.1,(),r11.1.2.2.2.2.2.2.2.2.2.1,r11.1.2.2.2.2.2.2.2.2.2.2.1,r11.1.2.2.2.2.2.2.2.2.2.2.2,()),()),(v22,v23,v24,r11.1.2.2.1,r11.1.2.2.2.2.2.2.2.2.1,()))) else some (.inr (.inl ((((),()),((),()),((),()),()),((v0,v1,v2,(),v3,v4,v5,v6,v7,(),v8,v9,v10,()),(v11,v12,v13,(),v14,v15,v16,v17,v18,(),v19,v20,v21,()),()),(v22,v23,v24,v25,v26,())))) else some (.inr (.inl ((((),()),((),()),((),()),()),((v0,v1,v2,(),v3,v4,v5,v6,v7,(),v8,v9,v10,()),(v11,v12,v13,(),v14,v15,v16,v17,v18,(),v19,v20,v21,()),()),(v22,v23,v24,v25,v26,())))) else none else some (.inr (.inl ((((),()),((),()),((),()),()),((v0,v1,v2,(),v3,v4,v5,v6,v7,(),v8,v9,v10,()),(v11,v12,v13,(),v14,v15,v16,v17,v18,(),v19,v20,v21,()),()),(v22,v23,v24,v25,v26,()))))
def yat (x:(yaG).X):=yd3 x.2.1.1.1 x.2.1.1.2.1 x.2.1.1.2.2.1 x.2.1.1.2.2.2.2.1 x.2.1.1.2.2.2.2.2.1 x.2.1.1.2.2.2.2.2.2.1 x.2.1.1.2.2.2.2.2.2.2.1 x.2.1.1.2.2.2.2.2.2.2.2.1 x.2.1.1.2.2.2.2.2.2.2.2.2.2.1 x.2.1.1.2.2.2.2.2.2.2.2.2.2.2.1 x.2.1.1.2.2.2.2.2.2.2.2.2.2.2.2.1 x.2.1.2.1.1 x.2.1.2.1.2.1 x.2.1.2.1.2.2.1 x.2.1.2.1.2.2.2.2.1 x.2.1.2.1.2.2.2.2.2.1 x.2.1.2.1.2.2.2.2.2.2.1 x.2.1.2.1.2.2.2.2.2.2.2.1 x.2.1.2.1.2.2.2.2.2.2.2.2.1 x.2.1.2.1.2.2.2.2.2.2.2.2.2.2.1 x.2.1.2.1.2.2.2.2.2.2.2.2.2.2.2.1 x.2.1.2.1.2.2.2.2.2.2.2.2.2.2.2.2.1 x.2.2.1 x.2.2.2.1 x.2.2.2.2.1 x.2.2.2.2.2.1 x.2.2.2.2.2.2.1
def yn5 (x:(yb8).X):(yaG).X:=((((),()),((),()),((),()),()),((x.2.1.1.1,x.2.1.1.2.1,x.2.1.1.2.2.1,(),x.2.1.1.2.2.2.2.1,x.2.1.1.2.2.2.2.2.1,x.2.1.1.2.2.2.2.2.2.1,x.2.1.1.2.2.2.2.2.2.2.1,x.2.1.1.2.2.2.2.2.2.2.2.1,(),x.2.1.1.2.2.2.2.2.2.2.2.2.2.1,x.2.1.1.2.2.2.2.2.2.2.2.2.2.2.1,x.2.1.1.2.2.2.2.2.2.2.2.2.2.2.2.1,()),(x.2.1.2.1.1,x.2.1.2.1.2.1,x.2.1.2.1.2.2.1,(),x.2.1.2.1.2.2.2.2.1,x.2.1.2.1.2.2.2.2.2.1,x.2.1.2.1.2.2.2.2.2.2.1,x.2.1.2.1.2.2.2.2.2.2.2.1,x.2.1.2.1.2.2.2.2.2.2.2.2.1,(),x.2.1.2.1.2.2.2.2.2.2.2.2.2.2.1,x.2.1.2.1.2.2.2.2.2.2.2.2.2.2.2.1,x.2.1.2.1.2.2.2.2.2.2.2.2.2.2.2.2.1,()),()),(x.2.2.1,x.2.2.2.1,x.2.2.2.2.1,x.2.2.2.2.2.1,x.2.2.2.2.2.2.1,()))
def ypJ:Code:=(zd7 yia 64 8184).getD .skip
theorem yFK:zd7 yia 64 2046=some (.block 0 (.loop ypJ)):=by kernel_rfl
theorem yFO (x:(yaG).X):zhu ⟨ynF,142,ytu⟩ 0 ypJ 8184 yaG yb7 yew x=yat x:=by kernel_rfl
def yn8 (x:(yb8).X):Nat:=18446744073709551616
def yhY (x:(yb8).X):Option ((yb7).X ⊕ (yew).X):=zF yat (yn8 x) (yn5 x)
def yoE:Seg:=⟨yb8,yb7,yew,yhY⟩
def yIW:Nat→Option Seg:=fun q=>bif Nat.beq q 2046 then some yoE else ytu q
theorem yIn:FrOk prog ⟨ynF,142,yIW⟩ yia:=(yIm).loop (sg:=yoE) yaG yn5 (by decide) yFK yat yn8 (by decide) (fun _=>rfl) (fun x r _ h=>h) yFO
abbrev yij:List Par:= [.kp tYs .fz]
abbrev ynX:List OT:= [⟨false,tB,.fz⟩]
def ylF (a0:List Int):Option (zaY ynX×zak yij) :=let r1:=yCV a0;bif r1 then some ((true,()),()) else bnd (ygE a0) fun r2 =>bnd (ygD a0) fun r3 =>let r4:=ydi (r2.1.1.1,r2.1.1.2.1,r2.1.1.2.2.1,r2.1.1.2.2.2.1,r2.1.1.2.2.2.2.1,r2.1.1.2.2.2.2.2.1,r2.1.1.2.2.2.2.2.2.1,r2.1.1.2.2.2.2.2.2.2.1,r2.1.1.2.2.2.2.2.2.2.2.1,r2.1.2.1,r2.1.1.2.2.2.2.2.2.2.2.2.2);let r5:=yjg (r2.1.1.1,r2.1.1.2.1,r2.1.1.2.2.1,r2.1.1.2.2.2.1,r2.1.1.2.2.2.2.1,r2.1.1.2.2.2.2.2.1,r2.1.1.2.2.2.2.2.2.1,r2.1.1.2.2.2.2.2.2.2.1,r2.1.1.2.2.2.2.2.2.2.2.1,r2.1.2.1,r2.1.1.2.2.2.2.2.2.2.2.2.2);let r6:=yfN r5.1;let r7:=ykE r6.2.2.1 r3.1.2.1 r2.1.1.1 (-1);bif(!(!r7.2))then let r8:=ydi r7.1;let r9:=yco r8 r4;bif(!(!r9))then bif r7.1.2.2.2.2.2.2.2.2.2.2.2 then some ((false,()),()) else zkt (yhY ((((),()),((),()),((),()),()),((r2.1.1.1,r2.1.1.2.1.1,r2.1.1.2.1.2,(),r2.1.1.2.2.2.1,r2.1.1.2.2.2.2.1,r2.1.1.2.2.2.2.2.1,r2.1.1.2.2.2.2.2.2.1,r2.1.1.2.2.2.2.2.2.2.1,(),r2.1.2.1,r2.1.1.2.2.2.2.2.2.2.2.2.2.1,r2.1.1.2.2.2.2.2.2.2.2.2.2.2,()),(r7.1.1,r7.1.2.1.1,r7.1.2.1.2,(),r7.1.2.2.2.1,r7.1.2.2.2.2.1,r7.1.2.2.2.2.2.1,r7.1.2.2.2.2.2.2.1,r7.1.2.2.2.2.2.2.2.1,(),r7.1.2.2.2.2.2.2.2.2.2.1,r7.1.2.2.2.2.2.2.2.2.2.2.1,r7.1.2.2.2.2.2.2.2.2.2.2.2,()),()),(r4,r2.1.1.2.2.1,r2.1.1.2.2.2.2.2.2.2.2.1,r7.1.2.2.1,r7.1.2.2.2.2.2.2.2.2.1,()))) (fun y11 =>bif(y11.2.1.2.1.2.2.2.2.1==(-1))then let r13:=yjA (y11.2.1.2.1.1,(y11.2.1.2.1.2.1,y11.2.1.2.1.2.2.1),y11.2.2.2.2.2.1,y11.2.1.2.1.2.2.2.2.1,y11.2.1.2.1.2.2.2.2.2.1,y11.2.1.2.1.2.2.2.2.2.2.1,y11.2.1.2.1.2.2.2.2.2.2.2.1,y11.2.1.2.1.2.2.2.2.2.2.2.2.1,y11.2.2.2.2.2.2.1,y11.2.1.2.1.2.2.2.2.2.2.2.2.2.2.1,y11.2.1.2.1.2.2.2.2.2.2.2.2.2.2.2.1,y11.2.1.2.1.2.2.2.2.2.2.2.2.2.2.2.2.1);bif(r13==0)then let r14:=ydi (y11.2.1.2.1.1,(y11.2.1.2.1.2.1,y11.2.1.2.1.2.2.1),y11.2.2.2.2.2.1,y11.2.1.2.1.2.2.2.2.1,y11.2.1.2.1.2.2.2.2.2.1,y11.2.1.2.1.2.2.2.2.2.2.1,y11.2.1.2.1.2.2.2.2.2.2.2.1,y11.2.1.2.1.2.2.2.2.2.2.2.2.1,y11.2.2.2.2.2.2.1,y11.2.1.2.1.2.2.2.2.2.2.2.2.2.2.1,y11.2.1.2.1.2.2.2.2.2.2.2.2.2.2.2.1,y11.2.1.2.1.2.2.2.2.2.2.2.2.2.2.2.2.1);let r15:=yco r14 y11.2.2.1;some ((r15,()),()) else some ((false,()),()) else bif(inb y11.2.1.2.1.2.2.2.2.1 y11.2.2.2.2.2.1.length)then bif(((nth y11.2.2.2.2.2.1 y11.2.1.2.1.2.2.2.2.1 ([],[],false,[])).2).2).1 then some (((y11.2.1.2.1.2.2.2.2.1==y11.2.1.1.2.2.2.2.1),()),()) else let r16:=yhv (y11.2.1.2.1.1,(y11.2.1.2.1.2.1,y11.2.1.2.1.2.2.1),y11.2.2.2.2.2.1,y11.2.1.2.1.2.2.2.2.1,y11.2.1.2.1.2.2.2.2.2.1,y11.2.1.2.1.2.2.2.2.2.2.1,y11.2.1.2.1.2.2.2.2.2.2.2.1,y11.2.1.2.1.2.2.2.2.2.2.2.2.1,y11.2.2.2.2.2.2.1,y11.2.1.2.1.2.2.2.2.2.2.2.2.2.2.1,y11.2.1.2.1.2.2.2.2.2.2.2.2.2.2.2.1,y11.2.1.2.1.2.2.2.2.2.2.2.2.2.2.2.2.1);bif(r16.2==0)then bif(r16.1.2.2.2.1==(-1))then let r17:=yjA r16.1;bif(r17==0)then let r18:=yq2 r16.1;bif r18 then let r19:=ydi r16.1;let r20:=yco r19 y11.2.2.1;some ((r20,()),()) else some ((false,()),()) else some ((false,()),()) else some ((false,()),()) else some ((false,()),()) else none) (fun y11 =>some ((y11.1.1.1,()),())) else some ((false,()),()) else some ((false,()),())
theorem yJr:ConOk prog 11 ⟨yij,ynX,fun x=>ylF x.1⟩:=zkI (yIn) func11 ntmps11.symm fun x=>by kernel_rfl
def yos (a0:List Int):Bool:=true
theorem y47 (a:dA):(yfN a).2.2.1=a.2.2.1:=by unfold yfN; cases yM a<;>rfl
theorem y27 {l:List dM} {ks:List Int} {id:Int} {x:dA} (h:yoD l ks id (-1)=(x,true)):yaD x:=by
 have hd:=y5w (yak l ks) id;unfold yoD at h;generalize yfX (yak l ks) id=A at h hd;rw[zk2 (show(-1:Int)≤ -1 by omega),zk2 (show(-1:Int)≤1000 by omega),Bool.and_self,cond_true]at h;have hr:=y3t (a:=yhV A.1 (-1) (ya A.1)) ⟨hd,rfl⟩;generalize ymh (yhV A.1 (-1) (ya A.1))=Z at h hr;cases ha:A.2
 ·rw[ha,cond_false]at h
  exact absurd (congrArg (fun z=>z.2) h) (by simp)
 ·rw[ha,cond_true]at h
  have h:=congrArg (fun z=>z.1) h;simp only at h;rw[← h]; exact hr
theorem yW2 {K:Int} {V:Int→Int→Int} {d:List Int} {a:dA}: ∀(n:Nat) (y:dA) (fuel:Nat),n<fuel→y.2.1.2-y.2.2.2.2.1≤n→Gd K V y→yaD y →
  ∃z,zF yat fuel (ydV a y d)=some (.inl (yoq a z d))∧Gd K V z∧yaD z∧SmC y z∧(z.2.2.2.1= -1∨z.2.2.2.2.1=z.2.1.2)
 | n,y,fuel+1,hf,hn,h,hfr=>by
  have c:=h.x.xc;unfold yX at c;have hlen:=h.x.xk.1.2;by_cases hl:y.2.2.2.1= -1
  ·refine⟨y,?_,h,hfr,⟨rfl,rfl,rfl,rfl⟩,.inl hl⟩
   rw[zF];simp only[yat,ydV,yd3,zk1 (show y.2.2.2.1<0 by omega),cond_false]
  ·have hm:inb y.2.2.2.1 y.2.2.1.length=true:=zj6.2 (by omega)
   have hfm:(nth y.2.2.1 y.2.2.2.1 yc).2.2.1=false:=h.fd _ (by omega) (by omega);by_cases hb:y.2.2.2.2.1<y.2.1.2
   ·match n,hn with
    | 0,hn=>omega
    | n+1,hn =>
     obtain⟨g1,_,g3,g4,g5,_,_⟩:=y33 h hm hb;have hfr2:=g5 hfr;obtain⟨k1,k2,k3⟩:=g1 hfr2.1;obtain⟨z,e,z1,z2,z3,z4⟩:=yW2 n (yY y).2 fuel (by omega) (by rw[g3.cg,k3]; omega) k2 hfr2;refine⟨z,?_,z1,z2,yZ4 g3 z3,z4⟩;rw[← e,zF];simp only[yat,ydV,yd3,zk2 (show 0≤y.2.2.2.1 by omega),hm,cond_true,zkX];rw[yI6 hfm,zky hb,cond_true];simp only[yc8,y2A h hm hb,k1,bne_self_eq_false,cond_false]
   ·refine⟨y,?_,h,hfr,⟨rfl,rfl,rfl,rfl⟩,.inr (by omega)⟩
    rw[zF];simp only[yat,ydV,yd3,zk2 (show 0≤y.2.2.2.1 by omega),hm,cond_true,zkX];rw[yI6 hfm,zk3 (show y.2.1.2≤y.2.2.2.2.1 by omega),cond_false]
theorem yKC (a0:List Int) (hk:zjx yij (a0,())):ylF a0=(fun n=>some ((n,()),())) (yos a0):=by
 have hb:a0.length≤140737488355328:=by have:a0.length*1≤2^47:=hk.1.1; omega
 obtain⟨a,n,V,e,hG,n0,n1⟩:=y3r a0 hb;obtain⟨a2,ks,n2,e1,_,_,_⟩:=y3q a0 hb;have hA:=y3T (x:=n) hG.l (by omega)
 have hAd:yhV a n false=(a.1,a.2.1,a.2.2.1,a.2.2.2.1,a.2.2.2.2.1,a.2.2.2.2.2.1,a.2.2.2.2.2.2.1,a.2.2.2.2.2.2.2.1,a.2.2.2.2.2.2.2.2.1,n,a.2.2.2.2.2.2.2.2.2.2):=by
  unfold yhV;rw[← show a.2.2.2.2.2.2.2.2.2.2.1=false from hG.l.x.xu]
 have hfa:=y4X hG;obtain⟨A,hAe⟩: ∃A,A=yhV a n false:=⟨_,rfl⟩;have Ag:A.2.1=a.2.1:=by rw[hAe]; rfl
 have Al:A.2.2.2.1=a.2.2.2.1:=by rw[hAe]; rfl
 have Ai:A.1=a.1:=by rw[hAe]; rfl
 have Am:A.2.2.1=a.2.2.1:=by rw[hAe]; rfl
 have hFA:y4a A:=by rw[hAe]; exact hfa
 have hAf:yq A A.2.2.2.1=true:=by rw[hAe]; exact hG.f
 have hAb: ∀i m,0≤i→i<A.2.1.1→6≤m→yA A i m=false:=by rw[hAe]; exact hG.b
 rw[← hAe]at hA hAd;obtain⟨D,hDe⟩: ∃D,D=ypu A:=⟨_,rfl⟩;have hdA:D=(List.range a.2.1.2.toNat).flatMap (fun(s:Nat)=>yH8 V a.2.1 s):=by rw[hDe,yvi hA.x hFA,Ag]
 obtain⟨x1,x2,x3,x4,x5,x6,x7,_⟩:=y4I hA (by rw[Al,Am]; exact hG.m) hAf hAb (by omega);rw[Ai]at x1;rw[Ag]at x2 x5 x6;unfold ylF yos;simp only[e,e1,zkH];rw[← hAd];simp only[ydi,yjg,y47,ykE];rw[← hDe];generalize yc7 A=X at x1 x2 x3 x4 x5 x6 x7;obtain⟨y,W,Lf,ey,hW,byy⟩:=y3A (fuse:= -1) x4 x7 (by omega) ks (by omega);subst hW;rw[x1]at ey;rw[x1,x2]at byy;have hfr:=y27 ey;have hyi:=(byy.up hfr.1).1
 have gy:Gd (400+3+1) W y:=⟨hyi,fun i i0 i1=>by
  rw[byy.bg]at i1;exact(byy.bf i i0 i1).trans (x5 i i0 i1),fun i m i0 i1 m0=>by
  rw[byy.bg]at i1;cases hx:yA y i m
  ·rfl
  ·rw[← x6 i m i0 i1 m0]; exact(byy.be i m i0 i1 m0 hx).symm⟩
 have hdy:ypu y=D:=by rw[hdA,yvi hyi (yNa gy),byy.bg]
 have hcy:=hyi.xc;unfold yX at hcy;have hgy:=yj.1 hcy.1;obtain⟨z,lz,gz,fz,sz,hz⟩:=yW2 (d:=D) (a:=A) (y.2.1.2-y.2.2.2.2.1).toNat y 18446744073709551616 (by omega) (by omega) gy hfr;have hdz:ypu z=D:=by rw[hdA,yvi gz.x (yNa gz),sz.cg,byy.bg]
 have hlz:yhY (yE8 A y D)=some (.inl (yoq A z D)):=lz;have hczl:=gz.x.xc.2.2.2.1;have hzlen:=gz.x.xk.1.2;rw[hAd]at hlz;cases yCV a0
 ·simp only[cond_false,ey,Bool.not_true,Bool.not_false,cond_true,hdy,yBl]
  rw[yXM byy.bb];refine(congrArg (fun z=>zkt z _ _) hlz).trans ?_;simp only[zkN,zkX];by_cases hl:z.2.2.2.1= -1
  ·rw[show(z.2.2.2.1== -1)=true from beq_iff_eq.2 hl]
   simp only[cond_true,yjA,y3N gz (.inl hl),hdz,yBl,beq_self_eq_true]
  ·rw[show(z.2.2.2.1== -1)=false from beq_eq_false_iff_ne.2 hl]
   have hzm:inb z.2.2.2.1 z.2.2.1.length=true:=zj6.2 (by omega);have hzf:(nth z.2.2.1 z.2.2.2.1 yc).2.2.1=false:=gz.fd _ (by omega) (by omega);obtain⟨_,q2,_,_,_,_,_,q8,q9⟩:=y2w gz hzm (hz.resolve_left hl) (by omega);obtain⟨r1,r2,r3⟩:=q9 (q8 fz).1;have hdq:ypu (yeJ z).1=D:=by rw[hdA,yvi r2.x (yNa r2),q2,sz.cg,byy.bg]
   have hbq:=y3N r2 (.inl r3);rw[cond_false,yM3 hzm,yXM hzf];simp only[yhv,r1,r3,yjA,hbq,yq2,y6p r2.x,hdq,yBl,beq_self_eq_true,cond_true]
 ·rfl
def yI5:Con:=⟨yij,ynX,fun x=>(fun n=>some ((n,()),())) (yos x.1)⟩
theorem yKK:ConOk prog 11 yI5:=(yJr).mono (fun x r hk h=>(yKC x.1 hk).trans h)
end
end Go.Tf
