/- Functions of the program, and what they come to. -/
import Derived.Test.YtolmneojjjpnjaaGreatBorneF4
import Derived.Deep.RegionLaw
import Derived.Laws.Externs
import Derived.Laws.IdiomCopy
import Derived.Laws.NewBlocks
import Derived.Lib.AppendZerosOnto
import Derived.Lib.Overlaps
import Derived.Lib.SliceRun
import Derived.Lib.Walk
import Derived.Shelf.RegionOpenPlain
import Derived.Shelf.Spec.SlicesInsert
import Derived.WalkKit
namespace Go.Tf
noncomputable section
open Go.Proofs Go.Proofs.Tryz IntKind
set_option synthInstance.maxHeartbeats 400000
set_option synthInstance.maxSize 10000
set_option linter.unusedVariables false
set_option linter.unusedSimpArgs false
set_option maxRecDepth 100000
def ySN:Code:=(f204.body).getD .skip
def yTh:Env:=zkw TT [(113,ydl),(206,yi8),(227,yqb)] []
theorem yKi:FrOk prog ⟨yTh,49,fun _=>none⟩ ySN:=zkA mixed yc ⟨yf4,ypQ,yDG,trivial⟩
abbrev yiV:List Par:= [.pt tA (.pr .fz (.pr (.pr .fz .fz) (.pr (.ow (.pr (.ow .fz) (.pr (.ow (.pr .fz .fz)) (.pr .fz (.ow .fz))))) (.pr .fz (.pr .fz (.pr .fz (.pr .fz (.pr .fz (.pr (.ow (.pr .fz .fz)) (.pr .fz (.pr .fz .fz)))))))))))]
abbrev ynI:List OT:= [⟨false,tI,.fz⟩]
def yqJ (a0:dA):Option (zaY ynI×zak yiV) :=bnd (yjv a0 a0.2.2.2.2.1) fun r1 =>bif(!r1.1.2.1)then some ((5,()),(a0,())) else let r2:=yaH a0.2.2.2.2.1;bif(inb a0.2.2.2.1 r1.1.1.length)then bnd (yeL a0 a0.2.2.2.1 r2 ([(nth r1.1.1 a0.2.2.2.1 0)]:List Int)) fun r3 =>bif r3.2.1.2.2.2.2.2.2.2.2.2.2.1 then some ((6,()),(r3.2.1,())) else some ((0,()),((r3.2.1.1,r3.2.1.2.1,r3.2.1.2.2.1,r3.2.1.2.2.2.1,(i64.wrap (r3.2.1.2.2.2.2.1+1)),r3.2.1.2.2.2.2.2),())) else none
theorem yOn:ConOk prog 204 ⟨yiV,ynI,fun x=>yqJ x.1⟩:=zkI (yKi) func204 ntmps204.symm fun x=>by kernel_rfl
def ynW (a0:dA):Int×dA:=yrn a0
def yjw (a0:dA):Bool:=ye a0.2.1&&(inb a0.2.2.2.1 a0.2.2.1.length&&inb a0.2.2.2.1 a0.2.1.1.toNat)
theorem yQ8 (a0:dA) (hk:zjx yiV (a0,())) (hq:yjw a0=true):yqJ a0=(fun n=>some ((n.1,()),(n.2,()))) (ynW a0):=by
 simp only[yjw,Bool.and_eq_true]at hq;unfold yqJ ynW yrn;rw[yDJ a0 a0.2.2.2.2.1 hq.1];simp only[zkH,yf2,yed];cases hw:(yJ a0 a0.2.2.2.2.1).2
 ·rfl
 ·rw[yI2 hw,hq.2.2,ykM a0 a0.2.2.2.1 (yQ a0.2.2.2.2.1) [nth (yJ a0 a0.2.2.2.2.1).1 a0.2.2.2.1 0] hq.2.1]
  simp only[zkH,ymV,Bool.not_true,cond_false,cond_true];show(bif yb (ya7 a0)then some ((6,()),(ya7 a0,()))else some ((0,()),(yZM (ya7 a0),())))=_;cases yb (ya7 a0)<;>rfl
def yju (a0:dA):Option (zaY ynI×zak yiV):=bif yjw a0 then(fun n=>some ((n.1,()),(n.2,()))) (ynW a0)else none
theorem ySe (a0:dA) (h:yjw a0=true):yju a0=(fun n=>some ((n.1,()),(n.2,()))) (ynW a0):=by unfold yju; rw[h]; rfl
def yBg:Con:=⟨yiV,ynI,fun x=>yju x.1⟩
theorem yR9:ConOk prog 204 yBg:=(yOn).mono (fun x r hk h=>zkY h (fun hq=>yQ8 x.1 hk hq))
def yVV:Code:=(f163.body).getD .skip
def yWp:Env:=zkw TT [(72,yd8),(83,yDg),(108,yBf),(112,yyY),(113,ydl),(117,yEO),(118,yEQ),(119,yl4),(120,yDf),(171,yqc),(179,yqd),(203,yy1),(204,yBg)] []
theorem yMY:FrOk prog ⟨yWp,160,fun _=>none⟩ yVV:=zkA mixed yc ⟨yie,yUG,yR8,yOG,yf4,yW1,yW3,yvu,yUF,yDH,yDI,yOJ,yR9,trivial⟩
abbrev yl:List Par:= [.pt tU .fz,.pt tA (.pr .fz (.pr (.pr .fz .fz) (.pr (.ow (.pr (.ow .fz) (.pr (.ow (.pr .fz .fz)) (.pr .fz (.ow .fz))))) (.pr .fz (.pr .fz (.pr .fz (.pr .fz (.pr .fz (.pr (.ow (.pr .fz .fz)) (.pr .fz (.pr .fz .fz)))))))))))]
abbrev ym:List OT:= []
def yih (a0:dU) (a1:dA):Option (zaY ym×zak yl) :=bnd (yi a0 14) fun r1 =>let k1:Option (zaY ym×zak yl) :=bnd (ybX r1.2.1 3) fun r9 =>bif r9.1.1 then bif(a1.2.2.2.1==(-1))then bnd (yi r9.2.1 a1.2.1.1) fun r10 =>bnd (yjt a1 r10.1.1) fun r11 =>some ((),(r10.2.1,r11.2.1,())) else some ((),(r9.2.1,a1,())) else some ((),(r9.2.1,a1,()));let k2:Option (zaY ym×zak yl) :=bif(inb a1.2.2.2.1 a1.2.2.1.length)then bif(((nth a1.2.2.1 a1.2.2.2.1 ([],[],false,[])).2).2).1 then bnd (yid a1) fun r12 =>some ((),(r1.2.1,r12.2.1,())) else some ((),(r1.2.1,a1,())) else none;let k3:Option (zaY ym×zak yl) :=bif(leb 0 a1.2.2.2.1)then k2 else some ((),(r1.2.1,a1,()));let k4:Option (zaY ym×zak yl) :=bif(inb a1.2.2.2.1 a1.2.2.1.length)then bif(!((((nth a1.2.2.1 a1.2.2.2.1 ([],[],false,[])).2).2).1))then bif(ltb a1.2.2.2.2.1 a1.2.1.2)then bnd (yju a1) fun r13 =>some ((),(r1.2.1,r13.2.1,())) else some ((),(r1.2.1,a1,())) else some ((),(r1.2.1,a1,())) else none;let k5:Option (zaY ym×zak yl) :=bif(leb 0 a1.2.2.2.1)then k4 else some ((),(r1.2.1,a1,()));let k6:Option (zaY ym×zak yl) :=bnd (ybX r1.2.1 3) fun r15 =>bif r15.1.1 then bnd (yi r15.2.1 a1.2.1.1) fun r16 =>bif(inb r16.1.1 a1.2.2.1.length)then bnd (yi r16.2.1 a1.2.1.2) fun r17 =>let r18:=yaH r17.1.1;let r19:=ymb ((nth a1.2.2.1 r16.1.1 ([],[],false,[])).1,((nth a1.2.2.1 r16.1.1 ([],[],false,[])).2).1,(((nth a1.2.2.1 r16.1.1 ([],[],false,[])).2).2)) r18;bif(inb r16.1.1 a1.2.2.1.length)then some ((),(r17.2.1,(a1.1,a1.2.1,(a1.2.2.1.set (r16.1.1).toNat r19),a1.2.2.2),())) else none else none else some ((),(r15.2.1,a1,()));let k7:Option (zaY ym×zak yl) :=bif(a1.2.2.2.1==(-1))then k6 else some ((),(r1.2.1,a1,()));let k8:Option (zaY ym×zak yl) :=bif(r1.1.1==12)then let r14:=yf3 a1;some ((),(r1.2.1,r14,())) else k7;let k9:Option (zaY ym×zak yl) :=bif(r1.1.1==10)then k5 else k8;let k10:Option (zaY ym×zak yl) :=bif(r1.1.1==11)then k5 else k8;let k11:Option (zaY ym×zak yl) :=bif(r1.1.1==10)then k9 else k10;let k12:Option (zaY ym×zak yl) :=bif(r1.1.1==9)then k3 else k11;let k13:Option (zaY ym×zak yl) :=bif(r1.1.1==8)then k1 else k12;let k14:Option (zaY ym×zak yl) :=bif(r1.1.1==7)then bnd (ymW a1) fun r8 =>some ((),(r1.2.1,r8.2.1,())) else k13;let k15:Option (zaY ym×zak yl) :=bif(r1.1.1==4)then bnd (yi r1.2.1 a1.2.1.2) fun r6 =>bnd (ycN a1 r6.1.1) fun r7 =>some ((),(r6.2.1,r7.2.1,())) else k14;let k16:Option (zaY ym×zak yl) :=bif(r1.1.1==5)then bnd (yi r1.2.1 a1.2.1.2) fun r27 =>bnd (ycN a1 r27.1.1) fun r28 =>some ((),(r27.2.1,r28.2.1,())) else k14;let k17:Option (zaY ym×zak yl) :=bif(r1.1.1==6)then bnd (yi r1.2.1 a1.2.1.2) fun r48 =>bnd (ycN a1 r48.1.1) fun r49 =>some ((),(r48.2.1,r49.2.1,())) else k14;let k18:Option (zaY ym×zak yl) :=bif(r1.1.1==5)then k16 else k17;let k19:Option (zaY ym×zak yl) :=bif(r1.1.1==4)then k15 else k18;bif(r1.1.1==0)then bif(r1.1.1==0)then let r2:=yh a1.2.1;bnd (yi r1.2.1 r2) fun r3 =>bnd (ya5 r3.2.1) fun r4 =>bnd (yeM a1 r3.1.1 r4.1.1) fun r5 =>some ((),(r4.2.1,r5.2.1,())) else k19 else bif(r1.1.1==1)then bif(r1.1.1==1)then let r69:=yh a1.2.1;bnd (yi r1.2.1 r69) fun r70 =>bnd (ya5 r70.2.1) fun r71 =>bnd (yeM a1 r70.1.1 r71.1.1) fun r72 =>some ((),(r71.2.1,r72.2.1,())) else k19 else bif(r1.1.1==2)then bif(r1.1.1==2)then let r136:=yh a1.2.1;bnd (yi r1.2.1 r136) fun r137 =>bnd (ya5 r137.2.1) fun r138 =>bnd (yeM a1 r137.1.1 r138.1.1) fun r139 =>some ((),(r138.2.1,r139.2.1,())) else k19 else bif(r1.1.1==3)then let r203:=yh a1.2.1;bnd (yi r1.2.1 r203) fun r204 =>bnd (ya5 r204.2.1) fun r205 =>bnd (yeM a1 r204.1.1 r205.1.1) fun r206 =>some ((),(r205.2.1,r206.2.1,())) else k19
theorem yRM:ConOk prog 163 ⟨yl,ym,fun x=>yih x.1 x.2.1⟩:=zkI (yMY) func163 ntmps163.symm fun x=>by kernel_rfl
def yDm:Con:=⟨yl,ym,fun x=>yih x.1 x.2.1⟩
theorem yUM:ConOk prog 163 yDm:=yRM
def yvZ (a:dA) (z:Option (zaY ym×zak yl)):Prop:= ∃(u':dU) (a':dA),z=some ((),(u',a',()))∧yen u'∧Turned a a'
def yYU (u:dU) (a:dA):Option (zaY ym×zak yl) :=bnd (yi u (yh a.2.1)) fun r3=>bnd (ya5 r3.2.1) fun r4=>bnd (yeM a r3.1.1 r4.1.1) fun r5=>some ((),(r4.2.1,r5.2.1,()))
def yVp (u:dU) (a:dA):Option (zaY ym×zak yl) :=bnd (yi u a.2.1.2) fun r6=>bnd (ycN a r6.1.1) fun r7=>some ((),(r6.2.1,r7.2.1,()))
def yX9 (u:dU) (a:dA):Option (zaY ym×zak yl) :=bnd (ybX u 3) fun r9=>bif r9.1.1 then(bif(a.2.2.2.1==(-1))then(bnd (yi r9.2.1 a.2.1.1) fun r10=>bnd (yjt a r10.1.1) fun r11=>some ((),(r10.2.1,r11.2.1,())))else some ((),(r9.2.1,a,())))else some ((),(r9.2.1,a,()))
def yVq (u:dU) (a:dA):Option (zaY ym×zak yl) :=bif leb 0 a.2.2.2.1 then(bif inb a.2.2.2.1 a.2.2.1.length then(bif(nth a.2.2.1 a.2.2.2.1 yd).2.2.1 then(bnd (yid a) fun r12=>some ((),(u,r12.2.1,())))else some ((),(u,a,())))else none)else some ((),(u,a,()))
def yYa (u:dU) (a:dA):Option (zaY ym×zak yl) :=bif leb 0 a.2.2.2.1 then(bif inb a.2.2.2.1 a.2.2.1.length then(bif !(nth a.2.2.1 a.2.2.2.1 yd).2.2.1 then(bif ltb a.2.2.2.2.1 a.2.1.2 then(bnd (yju a) fun r13=>some ((),(u,r13.2.1,())))else some ((),(u,a,())))else some ((),(u,a,())))else none)else some ((),(u,a,()))
def yIY (u:dU) (a:dA):Option (zaY ym×zak yl) :=bif(a.2.2.2.1==(-1))then(bnd (ybX u 3) fun r15=>bif r15.1.1 then(bnd (yi r15.2.1 a.2.1.1) fun r16=>bif inb r16.1.1 a.2.2.1.length then(bnd (yi r16.2.1 a.2.1.2) fun r17 =>bif inb r16.1.1 a.2.2.1.length then some ((),(r17.2.1,yd2 a r16.1.1 (spoil (nth a.2.2.1 r16.1.1 yd) (yQ r17.1.1)),()))else none)else none)else some ((),(r15.2.1,a,())))else some ((),(u,a,()))
theorem yF8 {u:dU} {a:dA} (h:ya3 a) (hk:yal a) (hu:yen u):yvZ a (yYU u a):=by
 have hg:=yk.1 h.1;have hd:=yq8 h.2.2.1 h.1;obtain⟨b,u1,e1,q1,d1⟩:=ye2 u (yh a.2.1) hu;obtain⟨x,u2,e2,q2,d2⟩:=y0F u1 d1;have hx:isW x=true:=by rw[ybR]at q2; exact q2
 have hbl:0<yh a.2.1:=by
  rw[yvQ h.1];exact Int.mul_pos (by omega) (by omega)
 have hb:ybQ a.2.1 b=true:=by
  have:=q1.2.1 hbl;unfold ybQ;rw[zk2 q1.1,zk2 (show b≤yh a.2.1-1 by omega)]; rfl
 unfold yYU;rw[e1,zkH,e2,zkH,yW6 a b x (by unfold ymY; rw[yEA.2 ⟨h,hk⟩,hb]; exact decide_eq_true (show a.2.2.2.2.2.2.2.2.1.length≤1000 by omega)),zkH];exact⟨_,_,rfl,d2,.put b x hb hx⟩
theorem yF7 {u:dU} {a:dA} (h:ya3 a) (hu:yen u):yvZ a (yVp u a):=by
 have hd:=yq8 h.2.2.1 h.1;obtain⟨s,u1,e1,q1,d1⟩:=ye2 u a.2.1.2 hu;unfold yVp;rw[e1,zkH,yDK a s (decide_eq_true (show a.2.2.2.2.2.2.2.2.1.length≤1000 by omega)),zkH];exact⟨_,_,rfl,d1,.flush s⟩
theorem y0r {u:dU} {a:dA} (h:ya3 a) (hu:yen u):yvZ a (bnd (ymW a) fun r8=>some ((),(u,r8.2.1,()))):=by
 have hd:=yq8 h.2.2.1 h.1;rw[yW4 a (decide_eq_true (show a.2.2.2.2.2.2.2.2.1.length≤1000 by omega)),zkH];exact⟨_,_,rfl,hu,.all⟩
theorem yZR {u:dU} {a:dA} (h:ya3 a) (hk:yal a) (hu:yen u):yvZ a (yX9 u a):=by
 have hg:=yk.1 h.1;have hl:=hk.1.2;obtain⟨r,u1,e1,d1⟩:=yYF u 3 hu;unfold yX9;rw[e1,zkH];cases r
 ·exact⟨_,_,rfl,d1,.same⟩
 ·cases h1:(a.2.2.2.1==(-1))
  ·exact⟨_,_,rfl,d1,.same⟩
  ·obtain⟨m,u2,e2,q2,d2⟩:=ye2 u1 a.2.1.1 d1
   have hm:inb m a.2.2.1.length=true:=zj6.2 ⟨q2.1,by have:=q2.2.1 (by omega); omega⟩;simp only[cond_true];rw[e2,zkH,ySd a m hm,zkH];exact⟨_,_,rfl,d2,.fail m (beq_iff_eq.1 h1) hm⟩
theorem yZm {u:dU} {a:dA} (h:ya3 a) (hk:yal a) (hu:yen u):yvZ a (yVq u a):=by
 have hl:=hk.1.2;have hc:=h.2.2.2.1;unfold yVq;cases h0:leb 0 a.2.2.2.1
 ·exact⟨_,_,rfl,hu,.same⟩
 ·have hi:inb a.2.2.2.1 a.2.2.1.length=true:=zj6.2 ⟨zj7.1 h0,by omega⟩
  rw[hi];cases hf:(nth a.2.2.1 a.2.2.2.1 yd).2.2.1
  ·exact⟨_,_,rfl,hu,.same⟩
  ·simp only[cond_true]
   rw[yOL a (by unfold yif; rw[h.1,hi]; rfl),zkH];exact⟨_,_,rfl,hu,.spare hi hf⟩
theorem yVr {u:dU} {a:dA} (h:ya3 a) (hk:yal a) (hu:yen u):yvZ a (yYa u a):=by
 have hl:=hk.1.2;have hc:=h.2.2.2.1;unfold yYa;cases h0:leb 0 a.2.2.2.1
 ·exact⟨_,_,rfl,hu,.same⟩
 ·have h0':=zj7.1 h0
  have hi:inb a.2.2.2.1 a.2.2.1.length=true:=zj6.2 ⟨h0',by omega⟩;rw[hi];cases hf:(nth a.2.2.1 a.2.2.2.1 yd).2.2.1
  ·cases hb:ltb a.2.2.2.2.1 a.2.1.2
   ·exact⟨_,_,rfl,hu,.same⟩
   ·simp only[cond_true,Bool.not_false]
    rw[ySe a (by unfold yjw; rw[h.1,hi,zj6.2 (show 0≤a.2.2.2.1∧a.2.2.2.1<a.2.1.1.toNat by omega)]; rfl),zkH];exact⟨_,_,rfl,hu,.step hi hf (zka.1 hb)⟩
  ·exact⟨_,_,rfl,hu,.same⟩
theorem yZn {u:dU} {a:dA} (h:ya3 a) (hk:yal a) (hu:yen u):yvZ a (yIY u a):=by
 have hg:=yk.1 h.1;have hl:=hk.1.2;unfold yIY;cases hlo:(a.2.2.2.1==(-1))
 ·exact⟨_,_,rfl,hu,.same⟩
 ·obtain⟨r,u1,e1,d1⟩:=yYF u 3 hu
  simp only[cond_true];rw[e1,zkH];cases r
  ·exact⟨_,_,rfl,d1,.same⟩
  ·obtain⟨m,u2,e2,q2,d2⟩:=ye2 u1 a.2.1.1 d1
   have hm:inb m a.2.2.1.length=true:=zj6.2 ⟨q2.1,by have:=q2.2.1 (by omega); omega⟩;obtain⟨s,u3,e3,q3,d3⟩:=ye2 u2 a.2.1.2 d2;simp only[cond_true];rw[e2,zkH];simp only[hm,cond_true];rw[e3,zkH];exact⟨_,_,rfl,d3,.spoil m s (beq_iff_eq.1 hlo) hm q3.1 (q3.2.1 (by omega))⟩
theorem y0H (u:dU) (a:dA) (hu:yen u) (h:ya3 a) (hk:yal a):yvZ a (yih u a):=by
 obtain⟨r,u1,e1,q1,d1⟩:=ye2 u 14 hu;have hr:=q1.2.1 (by omega);have h0:=q1.1;unfold yih;rw[e1,zkH];have hc:(r=0∨r=1∨r=2∨r=3)∨(r=4∨r=5∨r=6)∨r=7∨r=8∨r=9∨(r=10∨r=11)∨r=12∨r=13:=by omega
 rcases hc with(rfl | rfl | rfl | rfl) | (rfl | rfl | rfl) | rfl | rfl | rfl | (rfl | rfl) | rfl | rfl
 ·exact yF8 h hk d1
 ·exact yF8 h hk d1
 ·exact yF8 h hk d1
 ·exact yF8 h hk d1
 ·exact yF7 h d1
 ·exact yF7 h d1
 ·exact yF7 h d1
 ·exact y0r h d1
 ·exact yZR h hk d1
 ·exact yZm h hk d1
 ·exact yVr h hk d1
 ·exact yVr h hk d1
 ·refine⟨u1,yab a,?_,d1,.check⟩
  rw[← yGj]; rfl
 ·have:=yZn h hk d1
  unfold yIY at this;simp only[← yed]at this;exact this
def ypm:Code:=(f124.body).getD .skip
def yxc:Env:=zkw TT [(72,yd8),(115,yDa),(116,yEM),(163,yDm)] []
theorem yMT:FrOk prog ⟨yxc,24,fun _=>none⟩ ypm:=zkA mixed yc ⟨yie,yUA,yWZ,yUM,trivial⟩
def yCM:Nat→Option Seg:=fun _=>none
def ycv:Shape:=⟨[(0,false,[.ptr 1000000000 0]),(4,false,[.ptr 0 0]),(5,false,[.ptr 4480 0]),(6,false,[.int .i64])],[(0,[.int .i64,.int .i64,.int .i64,.nil,.int .i64,.int .i64,.int .i64,.int .i64,.int .i64,.nil,.int .i64,.bool,.bool]),(4480,[.int .i64,.int .i64,.int .i64,.at 800000000,.int .i64,.int .i64,.int .i64,.int .i64,.int .i64,.at 800000001,.int .i64,.bool,.bool]),(1000000000,[.fz tY,.int .i64,.int .i64])],[(800000000,tM,(.pr (.ow .fz) (.pr (.ow (.pr .fz .fz)) (.pr .fz (.ow .fz))))),(800000001,tW,(.pr .fz .fz))]⟩
def ygs:Shape:=⟨[(0,false,[.ptr 1000000000 0]),(4,false,[.ptr 0 0]),(5,false,[.ptr 4480 0]),(6,false,[.int .i64])],[(0,[.int .i64,.int .i64,.int .i64,.nil,.int .i64,.int .i64,.int .i64,.int .i64,.int .i64,.nil,.int .i64,.bool,.bool]),(4480,[.int .i64,.int .i64,.int .i64,.at 800000000,.int .i64,.int .i64,.int .i64,.int .i64,.int .i64,.at 800000001,.int .i64,.bool,.bool]),(1000000000,[.fz tY,.int .i64,.int .i64])],[(800000000,tM,(.pr (.ow .fz) (.pr (.ow (.pr .fz .fz)) (.pr .fz (.ow .fz))))),(800000001,tW,(.pr .fz .fz))]⟩
def ygi:Shape:=⟨[(4,false,[.ptr 0 0]),(5,false,[.ptr 4480 0])],[(0,[.int .i64,.int .i64,.int .i64,.nil,.int .i64,.int .i64,.int .i64,.int .i64,.int .i64,.nil,.int .i64,.bool,.bool]),(4480,[.int .i64,.int .i64,.int .i64,.at 800000000,.int .i64,.int .i64,.int .i64,.int .i64,.int .i64,.at 800000001,.int .i64,.bool,.bool]),(1000000000,[.fz tY,.int .i64,.int .i64])],[(800000000,tM,(.pr (.ow .fz) (.pr (.ow (.pr .fz .fz)) (.pr .fz (.ow .fz))))),(800000001,tW,(.pr .fz .fz))]⟩
def yjX:Shape:=⟨[],[],[]⟩
abbrev yoy (v0:Int) (v1 v2:dA) (v3:dU):(ycv).X:=((((),()),((),()),((),()),(v0,()),()),((v1.1,v1.2.1.1,v1.2.1.2,(),v1.2.2.2.1,v1.2.2.2.2.1,v1.2.2.2.2.2.1,v1.2.2.2.2.2.2.1,v1.2.2.2.2.2.2.2.1,(),v1.2.2.2.2.2.2.2.2.2.1,v1.2.2.2.2.2.2.2.2.2.2.1,v1.2.2.2.2.2.2.2.2.2.2.2,()),(v2.1,v2.2.1.1,v2.2.1.2,(),v2.2.2.2.1,v2.2.2.2.2.1,v2.2.2.2.2.2.1,v2.2.2.2.2.2.2.1,v2.2.2.2.2.2.2.2.1,(),v2.2.2.2.2.2.2.2.2.2.1,v2.2.2.2.2.2.2.2.2.2.2.1,v2.2.2.2.2.2.2.2.2.2.2.2,()),(v3.1,v3.2.1,v3.2.2,()),()),(v2.2.2.1,v2.2.2.2.2.2.2.2.2.1,()))
abbrev yKE (v0:Int) (v1 v2:dA) (v3:dU):(ygs).X:=((((),()),((),()),((),()),(v0,()),()),((v1.1,v1.2.1.1,v1.2.1.2,(),v1.2.2.2.1,v1.2.2.2.2.1,v1.2.2.2.2.2.1,v1.2.2.2.2.2.2.1,v1.2.2.2.2.2.2.2.1,(),v1.2.2.2.2.2.2.2.2.2.1,v1.2.2.2.2.2.2.2.2.2.2.1,v1.2.2.2.2.2.2.2.2.2.2.2,()),(v2.1,v2.2.1.1,v2.2.1.2,(),v2.2.2.2.1,v2.2.2.2.2.1,v2.2.2.2.2.2.1,v2.2.2.2.2.2.2.1,v2.2.2.2.2.2.2.2.1,(),v2.2.2.2.2.2.2.2.2.2.1,v2.2.2.2.2.2.2.2.2.2.2.1,v2.2.2.2.2.2.2.2.2.2.2.2,()),(v3.1,v3.2.1,v3.2.2,()),()),(v2.2.2.1,v2.2.2.2.2.2.2.2.2.1,()))
abbrev yKw (v0 v1:dA) (v2:dU):(ygi).X:=((((),()),((),()),()),((v0.1,v0.2.1.1,v0.2.1.2,(),v0.2.2.2.1,v0.2.2.2.2.1,v0.2.2.2.2.2.1,v0.2.2.2.2.2.2.1,v0.2.2.2.2.2.2.2.1,(),v0.2.2.2.2.2.2.2.2.2.1,v0.2.2.2.2.2.2.2.2.2.2.1,v0.2.2.2.2.2.2.2.2.2.2.2,()),(v1.1,v1.2.1.1,v1.2.1.2,(),v1.2.2.2.1,v1.2.2.2.2.1,v1.2.2.2.2.2.1,v1.2.2.2.2.2.2.1,v1.2.2.2.2.2.2.2.1,(),v1.2.2.2.2.2.2.2.2.2.1,v1.2.2.2.2.2.2.2.2.2.2.1,v1.2.2.2.2.2.2.2.2.2.2.2,()),(v2.1,v2.2.1,v2.2.2,()),()),(v1.2.2.1,v1.2.2.2.2.2.2.2.2.1,()))
def yo6 (v0 v1 v2 v3 v4 v5 v6 v7 v8 v9:Int) (v10 v11:Bool) (v12 v13 v14 v15 v16 v17 v18 v19 v20:Int) (v21 v22:Bool) (v23:List Int) (v24 v25:Int) (v26:List dM) (v27:List dW):Option ((ycv).X ⊕ ((ygi).X ⊕ (yjX).X)) :=bif(ltb 0 v0)then bnd (yih (v23,v24,v25) (v12,(v13,v14),v26,v15,v16,v17,v18,v19,v27,v20,v21,v22)) fun r6 =>some (.inl ((((),()),((),()),((),()),((i64.wrap (v0-1)),()),()),((v1,v2,v3,(),v4,v5,v6,v7,v8,(),v9,v10,v11,()),(r6.2.2.1.1,r6.2.2.1.2.1.1,r6.2.2.1.2.1.2,(),r6.2.2.1.2.2.2.1,r6.2.2.1.2.2.2.2.1,r6.2.2.1.2.2.2.2.2.1,r6.2.2.1.2.2.2.2.2.2.1,r6.2.2.1.2.2.2.2.2.2.2.1,(),r6.2.2.1.2.2.2.2.2.2.2.2.2.1,r6.2.2.1.2.2.2.2.2.2.2.2.2.2.1,r6.2.2.1.2.2.2.2.2.2.2.2.2.2.2,()),(r6.2.1.1,r6.2.1.2.1,r6.2.1.2.2,()),()),(r6.2.2.1.2.2.1,r6.2.2.1.2.2.2.2.2.2.2.2.1,()))) else some (.inr (.inl ((((),()),((),()),()),((v1,v2,v3,(),v4,v5,v6,v7,v8,(),v9,v10,v11,()),(v12,v13,v14,(),v15,v16,v17,v18,v19,(),v20,v21,v22,()),(v23,v24,v25,()),()),(v26,v27,()))))
def ycU (x:(ycv).X):=yo6 x.1.2.2.2.1.1 x.2.1.1.1 x.2.1.1.2.1 x.2.1.1.2.2.1 x.2.1.1.2.2.2.2.1 x.2.1.1.2.2.2.2.2.1 x.2.1.1.2.2.2.2.2.2.1 x.2.1.1.2.2.2.2.2.2.2.1 x.2.1.1.2.2.2.2.2.2.2.2.1 x.2.1.1.2.2.2.2.2.2.2.2.2.2.1 x.2.1.1.2.2.2.2.2.2.2.2.2.2.2.1 x.2.1.1.2.2.2.2.2.2.2.2.2.2.2.2.1 x.2.1.2.1.1 x.2.1.2.1.2.1 x.2.1.2.1.2.2.1 x.2.1.2.1.2.2.2.2.1 x.2.1.2.1.2.2.2.2.2.1 x.2.1.2.1.2.2.2.2.2.2.1 x.2.1.2.1.2.2.2.2.2.2.2.1 x.2.1.2.1.2.2.2.2.2.2.2.2.1 x.2.1.2.1.2.2.2.2.2.2.2.2.2.2.1 x.2.1.2.1.2.2.2.2.2.2.2.2.2.2.2.1 x.2.1.2.1.2.2.2.2.2.2.2.2.2.2.2.2.1 x.2.1.2.2.1.1 x.2.1.2.2.1.2.1 x.2.1.2.2.1.2.2.1 x.2.2.1 x.2.2.2.1
def yza (x:(ygs).X):(ycv).X:=((((),()),((),()),((),()),(x.1.2.2.2.1.1,()),()),((x.2.1.1.1,x.2.1.1.2.1,x.2.1.1.2.2.1,(),x.2.1.1.2.2.2.2.1,x.2.1.1.2.2.2.2.2.1,x.2.1.1.2.2.2.2.2.2.1,x.2.1.1.2.2.2.2.2.2.2.1,x.2.1.1.2.2.2.2.2.2.2.2.1,(),x.2.1.1.2.2.2.2.2.2.2.2.2.2.1,x.2.1.1.2.2.2.2.2.2.2.2.2.2.2.1,x.2.1.1.2.2.2.2.2.2.2.2.2.2.2.2.1,()),(x.2.1.2.1.1,x.2.1.2.1.2.1,x.2.1.2.1.2.2.1,(),x.2.1.2.1.2.2.2.2.1,x.2.1.2.1.2.2.2.2.2.1,x.2.1.2.1.2.2.2.2.2.2.1,x.2.1.2.1.2.2.2.2.2.2.2.1,x.2.1.2.1.2.2.2.2.2.2.2.2.1,(),x.2.1.2.1.2.2.2.2.2.2.2.2.2.2.1,x.2.1.2.1.2.2.2.2.2.2.2.2.2.2.2.1,x.2.1.2.1.2.2.2.2.2.2.2.2.2.2.2.2.1,()),(x.2.1.2.2.1.1,x.2.1.2.2.1.2.1,x.2.1.2.2.1.2.2.1,()),()),(x.2.2.1,x.2.2.2.1,()))
def yAX:Code:=(zd7 ypm 64 116).getD .skip
theorem yMc:zd7 ypm 64 29=some (.block 0 (.loop yAX)):=by kernel_rfl
theorem yOU (x:(ycv).X):zhu ⟨yxc,24,yCM⟩ 0 yAX 116 ycv ygi yjX x=ycU x:=by kernel_rfl
def yzk (x:(ygs).X):Nat:=18446744073709551616
def yp0 (x:(ygs).X):Option ((ygi).X ⊕ (yjX).X):=zF ycU (yzk x) (yza x)
def yzE:Seg:=⟨ygs,ygi,yjX,yp0⟩
def yPj:Nat→Option Seg:=fun q=>bif Nat.beq q 29 then some yzE else yCM q
theorem yMU:FrOk prog ⟨yxc,24,yPj⟩ ypm:=(yMT).loop (sg:=yzE) ycv yza (by decide) yMc ycU yzk (by decide) (fun _=>rfl) (fun x r _ h=>h) yOU
abbrev yxz:List Par:= [.pt tU .fz,.rd tI]
abbrev yx4:List OT:= [⟨false,tA,(.pr .fz (.pr (.pr .fz .fz) (.pr (.ow (.pr (.ow .fz) (.pr (.ow (.pr .fz .fz)) (.pr .fz (.ow .fz))))) (.pr .fz (.pr .fz (.pr .fz (.pr .fz (.pr .fz (.pr (.ow (.pr .fz .fz)) (.pr .fz (.pr .fz .fz)))))))))))⟩]
def yig (a0:dU) (a1:Int):Option (zaY yx4×zak yxz) :=bnd (yi a0 2) fun r1 =>bnd (yjA r1.2.1) fun r2 =>let r3:=ykE (i64.wrap (1+r1.1.1)) r2.1.1;bnd (yi r2.2.1 (i64.wrap (a1+1))) fun r4 =>zkt (yp0 ((((),()),((),()),((),()),(r4.1.1,()),()),((0,0,0,(),0,0,0,0,0,(),0,false,false,()),(r3.1,r3.2.1.1,r3.2.1.2,(),r3.2.2.2.1,r3.2.2.2.2.1,r3.2.2.2.2.2.1,r3.2.2.2.2.2.2.1,r3.2.2.2.2.2.2.2.1,(),r3.2.2.2.2.2.2.2.2.2.1,r3.2.2.2.2.2.2.2.2.2.2.1,r3.2.2.2.2.2.2.2.2.2.2.2,()),(r4.2.1.1,r4.2.1.2.1,r4.2.1.2.2,()),()),(r3.2.2.1,r3.2.2.2.2.2.2.2.2.1,()))) (fun y6 =>some (((y6.2.1.2.1.1,(y6.2.1.2.1.2.1,y6.2.1.2.1.2.2.1),y6.2.2.1,y6.2.1.2.1.2.2.2.2.1,y6.2.1.2.1.2.2.2.2.2.1,y6.2.1.2.1.2.2.2.2.2.2.1,y6.2.1.2.1.2.2.2.2.2.2.2.1,y6.2.1.2.1.2.2.2.2.2.2.2.2.1,y6.2.2.2.1,y6.2.1.2.1.2.2.2.2.2.2.2.2.2.2.1,y6.2.1.2.1.2.2.2.2.2.2.2.2.2.2.2.1,y6.2.1.2.1.2.2.2.2.2.2.2.2.2.2.2.2.1),()),((y6.2.1.2.2.1.1,y6.2.1.2.2.1.2.1,y6.2.1.2.2.1.2.2.1),()))) (fun y6 =>none)
theorem yRJ:ConOk prog 124 ⟨yxz,yx4,fun x=>yig x.1 x.2.1⟩:=zkI (yMU) func124 ntmps124.symm fun x=>by kernel_rfl
def yDk:Con:=⟨yxz,yx4,fun x=>yig x.1 x.2.1⟩
theorem yUK:ConOk prog 124 yDk:=yRJ
theorem yVb {P:Int→dA→Prop} {K:Int} (hP: ∀k a,P k a→ya3 a∧yal a) (hT: ∀k a b,P k a→Turned a b→k+16≤K→P (k+16) b): ∀(n:Nat) (k:Int) (a:dA) (u:dU) (fuel:Nat),n<fuel→n≤1000→yen u→P k a→k+16*n≤K →
  ∃(a':dA) (u':dU),zF ycU fuel (yoy n yem a u)=some (.inl (yKw yem a' u'))∧yen u'∧P (k+16*n) a'
 | 0,k,a,u,fuel+1,_,_,hu,h,_=>⟨a,u,by simp only[zF,ycU,yoy,yo6]; rfl,hu,by rw[show k+16*((0:Nat):Int)=k by omega]; exact h⟩
 | n+1,k,a,u,fuel+1,hf,hn,hu,h,hk=>by
  obtain⟨hc,hkp⟩:=hP k a h;obtain⟨u1,a1,e1,d1,h1⟩:=y0H u a hu hc hkp;obtain⟨a',u',e2,d2,h2⟩:=yVb hP hT n (k+16) a1 u1 fuel (by omega) (by omega) d1 (hT k a a1 h h1 (by omega)) (by omega);refine⟨a',u',?_,d2,by rw[show k+16*((n+1:Nat):Int)=k+16+16*(n:Int)by omega]; exact h2⟩;rw[← e2,zF];simp only[ycU,yoy,yo6,zky (show(0:Int)<((n+1:Nat):Int)by omega),cond_true,zkX,e1,zkH,show((n+1:Nat):Int)-1=(n:Int)by omega,wq ((n:Int)) (by omega) (by omega)]
theorem yY6 {P:Int→dA→Prop} {K:Int} (hP: ∀k a,P k a→ya3 a∧yal a) (hT: ∀k a b,P k a→Turned a b→k+16≤K→P (k+16) b) (h0P: ∀id g,ye g=true→1≤id→id≤60000→P 0 (ykt id g))
  (u:dU) (most:Int) (h:yen u) (h0:0≤most) (h1:most≤1000) (hm:16*most≤K): ∃(a:dA) (u':dU) (k:Int),yig u most=some ((a,()),(u',()))∧P k a∧k≤16*most∧yen u':=by
 obtain⟨r1,u1,e1,q1,d1⟩:=ye2 u 2 h;obtain⟨g,u2,e2,q2,d2⟩:=yZ5 u1 d1;obtain⟨r3,u3,e3,q3,d3⟩:=ye2 u2 (most+1) d2;have:=q1.1; have:=q1.2.1 (by omega); have:=q3.1; have:=q3.2.1 (by omega);have hn:=h0P (1+r1) g q2 (by omega) (by omega);obtain⟨a',u',e4,d4,h4⟩:=yVb hP hT r3.toNat 0 (ykt (1+r1) g) u3 18446744073709551616 (by omega) (by omega) d3 hn (by omega);rw[show((r3.toNat:Nat):Int)=r3 by omega]at e4;unfold yig;simp only[e1,e2,zkH,wq (most+1) (by omega) (by omega),e3,wq (1+r1) (by omega) (by omega),ykE];refine⟨a',u',_,?_,h4,by omega,d4⟩;exact(congrArg (fun z=>zkt z _ _) (show yp0 (yKE r3 yem (ykt (1+r1) g) u3)=_ from e4)).trans rfl
def ySI:Code:=(f52.body).getD .skip
def yTc:Env:=zkw TT [(69,yEL),(71,yDh),(124,yDk)] []
theorem yKb:FrOk prog ⟨yTc,11,fun _=>none⟩ ySI:=zkA mixed yc ⟨yWY,yUH,yUK,trivial⟩
abbrev yuL:List Par:= [.kp tYs .fz]
abbrev yu6:List OT:= [⟨false,tA,(.pr .fz (.pr (.pr .fz .fz) (.pr (.ow (.pr (.ow .fz) (.pr (.ow (.pr .fz .fz)) (.pr .fz (.ow .fz))))) (.pr .fz (.pr .fz (.pr .fz (.pr .fz (.pr .fz (.pr (.ow (.pr .fz .fz)) (.pr .fz (.pr .fz .fz)))))))))))⟩]
def ygM (a0:List Int):Option (zaY yu6×zak yuL) :=let r1:=yjn a0;let r2:=ydN a0 24;bnd (yig r1 (i64.wrap (6+r2))) fun r3 =>some ((r3.1.1,()),())
theorem yOh:ConOk prog 52 ⟨yuL,yu6,fun x=>ygM x.1⟩:=zkI (yKb) func52 ntmps52.symm fun x=>by kernel_rfl
def yBa:Con:=⟨yuL,yu6,fun x=>ygM x.1⟩
theorem yR3:ConOk prog 52 yBa:=yOh
theorem yY5 (a0:List Int) (hb:a0.length≤140737488355328): ∃(a:dA) (V:Int→Int→Int),ygM a0=some ((a,()),())∧Wk 480 a∧Ix 480 V a:=by
 obtain⟨h1,h2⟩:=y0G a0 24 (by omega) hb
 obtain⟨a,u',k,e,⟨q1,V,q2⟩,hk,d⟩:=yY6 (P:=fun k a=>Wk k a∧ ∃V,Ix k V a) (K:=480) (fun k a h=>⟨h.1.1,h.1.2.1⟩)
  (fun k a b h ht hk=>by
   obtain⟨hw,V,hi⟩:=h;have hw':=yZX hw ht (by omega)
   exact⟨ydJ hw' (by omega),yZG hi ht (by omega) hw'.2.2.1.1⟩) (fun id g g1 g2 g3=>⟨yZU g1 g2 g3,_,y1d g1 g2 g3⟩) _ (6+ydN a0 24) (y05 a0 hb) (by omega) (by omega) (by omega)
 refine⟨a,V,?_,ydJ q1 (by omega),yd9 q2 (by omega)⟩;unfold ygM;simp only[wq (6+ydN a0 24) (by omega) (by omega),e,zkH]
def ynk:Code:=(f54.body).getD .skip
def yuu:Env:=zkw TT [(68,ysI),(123,yfW)] []
theorem yJM:FrOk prog ⟨yuu,32,fun _=>none⟩ ynk:=zkA mixed yc ⟨yE7,ykJ,trivial⟩
def yzZ:Nat→Option Seg:=fun _=>none
def ybF:Shape:=⟨[(1,false,[.ptr 0 0]),(3,false,[.at 800000000]),(15,false,[.int .i64]),(16,false,[.int .i64])],[(0,[.int .i64,.int .i64,.int .i64,.br tM,.int .i64,.int .i64,.int .i64,.int .i64,.int .i64,.br tW,.int .i64,.bool,.bool])],[(800000000,tI,.fz)]⟩
def yfq:Shape:=⟨[(1,false,[.ptr 0 0]),(3,false,[.at 800000000]),(15,false,[.int .i64]),(16,false,[.ci .i64 0])],[(0,[.int .i64,.int .i64,.int .i64,.br tM,.int .i64,.int .i64,.int .i64,.int .i64,.int .i64,.br tW,.int .i64,.bool,.bool])],[(800000000,tI,.fz)]⟩
def yfe:Shape:=⟨[(3,false,[.at 800000000])],[],[(800000000,tI,.fz)]⟩
def yfC:Shape:=⟨[(2,false,[.nil])],[],[]⟩
abbrev ymJ (v0 v1:Int) (v2:dA) (v3:List Int):(ybF).X:=((((),()),((),()),(v0,()),(v1,()),()),((v2.1,v2.2.1.1,v2.2.1.2,v2.2.2.1,v2.2.2.2.1,v2.2.2.2.2.1,v2.2.2.2.2.2.1,v2.2.2.2.2.2.2.1,v2.2.2.2.2.2.2.2.1,v2.2.2.2.2.2.2.2.2.1,v2.2.2.2.2.2.2.2.2.2.1,v2.2.2.2.2.2.2.2.2.2.2.1,v2.2.2.2.2.2.2.2.2.2.2.2,()),()),(v3,()))
abbrev yId (v0:Int) (v1:dA) (v2:List Int):(yfq).X:=((((),()),((),()),(v0,()),((),()),()),((v1.1,v1.2.1.1,v1.2.1.2,v1.2.2.1,v1.2.2.2.1,v1.2.2.2.2.1,v1.2.2.2.2.2.1,v1.2.2.2.2.2.2.1,v1.2.2.2.2.2.2.2.1,v1.2.2.2.2.2.2.2.2.1,v1.2.2.2.2.2.2.2.2.2.1,v1.2.2.2.2.2.2.2.2.2.2.1,v1.2.2.2.2.2.2.2.2.2.2.2,()),()),(v2,()))
abbrev ywJ (v0:List Int):(yfe).X:=((((),()),()),(),(v0,()))
abbrev yIo  :(yfC).X:=((((),()),()),(),())
def ym6 (v0 v1 v2 v3 v4:Int) (v5:List dM) (v6 v7 v8 v9 v10:Int) (v11:List dW) (v12:Int) (v13 v14:Bool) (v15:List Int):Option ((ybF).X ⊕ ((yfe).X ⊕ (yfC).X)) :=bif(ltb v1 v0)then let r3:=ye5 (v2,(v3,v4),v5,v6,v7,v8,v9,v10,v11,v12,v13,v14) v1;bif(!r3.2)then some (.inr (.inr ((((),()),()),(),()))) else bif(zkl v15.length r3.1.length 8)then some (.inl ((((),()),((),()),(v0,()),((i64.wrap (v1+1)),()),()),((v2,v3,v4,v5,v6,v7,v8,v9,v10,v11,v12,v13,v14,()),()),((v15++r3.1),()))) else none else some (.inr (.inl ((((),()),()),(),(v15,()))))
def yb0 (x:(ybF).X):=ym6 x.1.2.2.1.1 x.1.2.2.2.1.1 x.2.1.1.1 x.2.1.1.2.1 x.2.1.1.2.2.1 x.2.1.1.2.2.2.1 x.2.1.1.2.2.2.2.1 x.2.1.1.2.2.2.2.2.1 x.2.1.1.2.2.2.2.2.2.1 x.2.1.1.2.2.2.2.2.2.2.1 x.2.1.1.2.2.2.2.2.2.2.2.1 x.2.1.1.2.2.2.2.2.2.2.2.2.1 x.2.1.1.2.2.2.2.2.2.2.2.2.2.1 x.2.1.1.2.2.2.2.2.2.2.2.2.2.2.1 x.2.1.1.2.2.2.2.2.2.2.2.2.2.2.2.1 x.2.2.1
def ywf (x:(yfq).X):(ybF).X:=((((),()),((),()),(x.1.2.2.1.1,()),(0,()),()),((x.2.1.1.1,x.2.1.1.2.1,x.2.1.1.2.2.1,x.2.1.1.2.2.2.1,x.2.1.1.2.2.2.2.1,x.2.1.1.2.2.2.2.2.1,x.2.1.1.2.2.2.2.2.2.1,x.2.1.1.2.2.2.2.2.2.2.1,x.2.1.1.2.2.2.2.2.2.2.2.1,x.2.1.1.2.2.2.2.2.2.2.2.2.1,x.2.1.1.2.2.2.2.2.2.2.2.2.2.1,x.2.1.1.2.2.2.2.2.2.2.2.2.2.2.1,x.2.1.1.2.2.2.2.2.2.2.2.2.2.2.2.1,()),()),(x.2.2.1,()))
def yyB:Code:=(zd7 ynk 64 244).getD .skip
theorem yJy:zd7 ynk 64 61=some (.block 0 (.loop yyB)):=by kernel_rfl
theorem yLm (x:(ybF).X):zhu ⟨yuu,32,yzZ⟩ 0 yyB 244 ybF yfe yfC x=yb0 x:=by kernel_rfl
def ywu (x:(yfq).X):Nat:=18446744073709551616
def yn6 (x:(yfq).X):Option ((yfe).X ⊕ (yfC).X):=zF yb0 (ywu x) (ywf x)
def ywV:Seg:=⟨yfq,yfe,yfC,yn6⟩
def yLP:Nat→Option Seg:=fun q=>bif Nat.beq q 61 then some ywV else yzZ q
theorem yJN:FrOk prog ⟨yuu,32,yLP⟩ ynk:=(yJM).loop (sg:=ywV) ybF ywf (by decide) yJy yb0 ywu (by decide) (fun _=>rfl) (fun x r _ h=>h) yLm
abbrev ynu:List Par:= [.rd tA]
abbrev yuR:List OT:= [⟨false,tL,(.ow .fz)⟩]
def yqw (a0:dA):Option (zaY yuR×zak ynu) :=let r1:=ybm a0.2.1;bif(!r1)then some ((([]:List Int),()),()) else zkt (yn6 ((((),()),((),()),(a0.2.1.2,()),((),()),()),((a0.1,a0.2.1.1,a0.2.1.2,a0.2.2.1,a0.2.2.2.1,a0.2.2.2.2.1,a0.2.2.2.2.2.1,a0.2.2.2.2.2.2.1,a0.2.2.2.2.2.2.2.1,a0.2.2.2.2.2.2.2.2.1,a0.2.2.2.2.2.2.2.2.2.1,a0.2.2.2.2.2.2.2.2.2.2.1,a0.2.2.2.2.2.2.2.2.2.2.2,()),()),(([]:List Int),()))) (fun y3 =>some ((y3.2.2.1,()),())) (fun y3 =>some (([],()),()))
theorem yN1:ConOk prog 54 ⟨ynu,yuR,fun x=>yqw x.1⟩:=zkI (yJN) func54 ntmps54.symm fun x=>by kernel_rfl
def yfZ (a0:dA):List Int:=yvl a0
theorem yQN (a0:dA) (hk:zjx ynu (a0,())):yqw a0=(fun n=>some ((n,()),())) (yfZ a0):=by
 unfold yqw yfZ yvl;rw[yH1];cases hg0:ye a0.2.1
 ·rw[show yP a0=false by unfold yP; rw[hg0]; rfl]; rfl
 have hg:=yk.1 hg0
 have h1:yn6 (yId a0.2.1.2 a0 [])=some (bif(List.range a0.2.1.2.toNat).all (fun(s:Nat)=>(ybB a0 s).2)then .inl (ywJ ((List.range a0.2.1.2.toNat).foldl (fun l (s:Nat)=>l++(ybB a0 s).1) []))else .inr (yIo)) :=
  zhU (step:=yb0) a0.2.1.2.toNat (fun i s=>ymJ a0.2.1.2 i a0 s) (fun(s:Nat)=>(ybB a0 s).2) (fun l (s:Nat)=>l++(ybB a0 s).1) (fun i s=>s.length≤4*i) (fun s=> .inl (ywJ s)) _ (fun i s hi hs=>by
   have:=yY2 i hg0;refine⟨?_,fun _=>by rw[List.length_append]; omega⟩;simp only[yb0,ymJ,ym6,zky (show(i:Int)<a0.2.1.2 by omega),cond_true,wq ((i:Int)+1) (by omega) (by omega),Int.natCast_add,Int.natCast_one,Int.toNat_natCast,zkX,ye5,zkF.2 (show(s.length+(ybB a0 i).1.length)*8≤140737488355328 by omega)]
   cases(ybB a0 i).2<;>rfl) (fun s hs=>by simp only[yb0,ymJ,ym6,zk3 (show a0.2.1.2≤(a0.2.1.2.toNat:Int)by omega),cond_false]) [] (Nat.zero_le _) _ (by show _<18446744073709551616; omega)
 rw[h1,yVd];cases ha:yP a0
 ·have:(List.range a0.2.1.2.toNat).all (fun(s:Nat)=>(ybB a0 s).2)=false:=by
   rw[List.all_eq_false];refine⟨0,List.mem_range.2 (by omega),?_⟩;unfold ybB;rw[ha]; simp
  rw[this]; rfl
 ·cases(List.range a0.2.1.2.toNat).all (fun(s:Nat)=>(ybB a0 s).2)<;>rfl
def yA1:Con:=⟨ynu,yuR,fun x=>(fun n=>some ((n,()),())) (yfZ x.1)⟩
theorem yRT:ConOk prog 54 yA1:=(yN1).mono (fun x r hk h=>(yQN x.1 hk).trans h)
def yZr:Code:=(f57.body).getD .skip
def yZs:Env:=zkw TT [] []
theorem yXE:FrOk prog ⟨yZs,21,fun _=>none⟩ yZr:=zkA mixed yc trivial
abbrev yG9:List Par:= [.rd tYs,.rd tI]
abbrev yHa:List OT:= [⟨false,tI,.fz⟩]
def ypg (a0:List Int) (a1:Int):Option (zaY yHa×zak yG9) :=bif(ltb a1 (a0.length:Int))then bif(inb a1 a0.length)then some (((i64.wrap (nth a0 a1 0)),()),()) else none else some ((((i64.wrap ((i64.wrap (a1*31))+(i64.wrap ((a0.length:Int)*7)))).tmod 256),()),())
theorem yYv:ConOk prog 57 ⟨yG9,yHa,fun x=>ypg x.1 x.2.1⟩:=zkI (yXE) func57 ntmps57.symm fun x=>by kernel_rfl
def yLA:Con:=⟨yG9,yHa,fun x=>ypg x.1 x.2.1⟩
theorem yZg:ConOk prog 57 yLA:=yYv
def atV (a0:List Int) (i:Int):Int:=bif ltb i (a0.length:Int)then nth a0 i 0 else(i*31+(a0.length:Int)*7).tmod 256
theorem y1u {a0:List Int} {i:Int} (hb:a0.length≤140737488355328) (hx: ∀x∈a0,0≤x∧x≤255) (i0:0≤i) (i1:i≤1000):ypg a0 i=some ((atV a0 i,()),())∧0≤atV a0 i∧atV a0 i≤255:=by
 unfold ypg atV;by_cases h:i<(a0.length:Int)
 ·have hi:inb i a0.length=true:=zj6.2 ⟨i0,h⟩
  have hr:=yvr (P:=fun x:Int=>0≤x∧x≤255) (d:=0) hi hx;rw[zky h,hi,wq (nth a0 i 0) (by omega) (by omega)];exact⟨rfl,hr⟩
 ·rw[zk3 (by omega),cond_false,cond_false,wq (i*31) (by omega) (by omega),wq ((a0.length:Int)*7) (by omega) (by omega),wq (i*31+(a0.length:Int)*7) (by omega) (by omega)]
  refine⟨rfl,Int.tmod_nonneg _ (by omega),?_⟩;have:=Int.tmod_lt_of_pos (i*31+(a0.length:Int)*7) (show(0:Int)<256 by omega);omega
theorem yY1 {a0:List Int} (h:Ty.Ok (.sl (.int .u8)) a0): ∀x∈a0,0≤x∧x≤255:=fun x hx=>h.2 x hx
def yJe:Code:=(f130.body).getD .skip
def yJs:Env:=zkw TT [(97,ytR),(98,ywb),(99,ywa),(158,yaP)] []
theorem yFF:FrOk prog ⟨yJs,44,fun _=>none⟩ yJe:=zkA mixed yc ⟨yIE,yLg,yLf,ycA,trivial⟩
abbrev ydr:List Par:= [.pt tA (.pr .fz (.pr (.pr .fz .fz) (.pr (.ow (.pr (.ow (.ow .fz)) (.pr (.ow (.pr .fz (.ow .fz))) (.pr .fz (.ow .fz))))) (.pr .fz (.pr .fz (.pr .fz (.pr .fz (.pr .fz (.pr (.ow (.pr .fz (.ow .fz))) (.pr .fz (.pr .fz .fz))))))))))),.rd tI,.rd tL]
abbrev yfA:List OT:= [⟨false,tB,.fz⟩]
def ylb (a0:dA) (a1:Int) (a2:List Int):Option (zaY yfA×zak ydr) :=bif(leb 4 (i64.wrap (a0.2.2.2.2.2.1-a0.2.2.2.2.2.2.1)))then bnd (ykc a0) fun r1 =>bif(!r1.1.1)then some ((false,()),(r1.2.1,())) else let r2:=yn a2;bnd (ydv r1.2.1 (r1.2.1.2.2.2.2.2.1,a1,r2)) fun r3 =>bif(!r3.1.1)then some ((false,()),(r3.2.1,())) else bnd (ycz (r3.2.1.1,r3.2.1.2.1,r3.2.1.2.2.1,r3.2.1.2.2.2.1,r3.2.1.2.2.2.2.1,(i64.wrap (r3.2.1.2.2.2.2.2.1+1)),r3.2.1.2.2.2.2.2.2) a1 a2) fun r4 =>some ((r4.1.1,()),(r4.2.1,())) else let r5:=yn a2;bnd (ydv a0 (a0.2.2.2.2.2.1,a1,r5)) fun r6 =>bif(!r6.1.1)then some ((false,()),(r6.2.1,())) else bnd (ycz (r6.2.1.1,r6.2.1.2.1,r6.2.1.2.2.1,r6.2.1.2.2.2.1,r6.2.1.2.2.2.2.1,(i64.wrap (r6.2.1.2.2.2.2.2.1+1)),r6.2.1.2.2.2.2.2.2) a1 a2) fun r7 =>some ((r7.1.1,()),(r7.2.1,()))
theorem yGQ:ConOk prog 130 ⟨ydr,yfA,fun x=>ylb x.1 x.2.1 x.2.2.1⟩:=zkI (yFF) func130 ntmps130.symm fun x=>by kernel_rfl
def yfJ (a0:dA) (a1:Int) (a2:List Int):Bool×dA:=(!(yb (yah a0 a1 a2).2),(yah a0 a1 a2).2)
def yfM (a0:dA) (a1:Int) (a2:List Int):Bool:= !(yb a0)&&(yX a0.2.1 a1&&((a2.length:Int)==a0.2.1.1-1&&(a0.2.2.1.length:Int)==a0.2.1.1))
theorem yIu (a0:dA) (a1:Int) (a2:List Int) (hk:zjx ydr (a0,a1,a2,())) (hq:yfM a0 a1 a2=true):ylb a0 a1 a2=(fun n=>some ((n.1,()),(n.2,()))) (yfJ a0 a1 a2):=by
 simp only[yfM,Bool.and_eq_true,beq_iff_eq,Bool.not_eq_true']at hq;obtain⟨hd0,hs0,hl0,hm0⟩:=hq
 have key: ∀b:dA,b.2.1=a0.2.1→b.2.2.1.length=a0.2.2.1.length→yb (yU b (b.2.2.2.2.2.1,a1,a2))=false→ycz (yan (yU b (b.2.2.2.2.2.1,a1,a2))) a1 a2=some ((!(yb (yK (yan (yU b (b.2.2.2.2.2.1,a1,a2))) a1 a2)),()),(yK (yan (yU b (b.2.2.2.2.2.1,a1,a2))) a1 a2,())):=fun b h1 h2 h3=>yLj _ _ _ (by
  unfold ygJ;rw[show yb (yan (yU b (b.2.2.2.2.2.1,a1,a2)))=yb (yU b (b.2.2.2.2.2.1,a1,a2))from rfl,h3,show(yan (yU b (b.2.2.2.2.2.1,a1,a2))).2.1=a0.2.1 from(yau (ygN _ _)).trans h1,show(yan (yU b (b.2.2.2.2.2.1,a1,a2))).2.2.1.length=a0.2.2.1.length from(yYQ _ _).trans h2,hs0,hl0,hm0]
  simp)
 have fin: ∀b:dA,b.2.1=a0.2.1→b.2.2.1.length=a0.2.2.1.length→yb b=false →
   (bnd (ydv b (b.2.2.2.2.2.1,a1,a2)) fun r3=>bif !r3.1.1 then some ((false,()),(r3.2.1,()))else bnd (ycz (yan r3.2.1) a1 a2) fun r4=>(some ((r4.1.1,()),(r4.2.1,())):Option (zaY yfA×zak ydr))) =
   some ((!(yb (bif yb (yU b (b.2.2.2.2.2.1,a1,a2))then(6,yU b (b.2.2.2.2.2.1,a1,a2))else(bif yb (yK (yan (yU b (b.2.2.2.2.2.1,a1,a2))) a1 a2)then 6 else 0,yK (yan (yU b (b.2.2.2.2.2.1,a1,a2))) a1 a2):Int×dA).2),()),((bif yb (yU b (b.2.2.2.2.2.1,a1,a2))then(6,yU b (b.2.2.2.2.2.1,a1,a2))else(bif yb (yK (yan (yU b (b.2.2.2.2.2.1,a1,a2))) a1 a2)then 6 else 0,yK (yan (yU b (b.2.2.2.2.2.1,a1,a2))) a1 a2):Int×dA).2,())):=fun b h1 h2 h3=>by
  rw[yIK b _ (by unfold yfL; rw[h3]; rfl)];have hk:=key b h1 h2;simp only[zkH,yfI];generalize yU b (b.2.2.2.2.2.1,a1,a2)=R at hk ⊢;rcases Bool.eq_false_or_eq_true (yb R)with hr | hr
  ·simp only[hr,Bool.not_true,Bool.not_false,cond_true]
  ·rw[hk hr]
   simp only[hr,Bool.not_false,Bool.not_true,cond_false,zkH]
 unfold ylb yfJ yah yF;simp only[yn];cases h4:leb 4 (i64.wrap (a0.2.2.2.2.2.1-a0.2.2.2.2.2.2.1))
 ·simp only[cond_false]
  have:=fin a0 rfl rfl hd0;unfold yan at this ⊢;rw[this];rw[show yb a0=false from hd0]; rfl
 ·simp only[cond_true]
  rw[yLi a0 (by unfold ykd; rw[hd0]; rfl)];simp only[zkH,ygD];rcases Bool.eq_false_or_eq_true (yb (yab a0))with hc | hc
  ·simp only[hc,Bool.not_true,Bool.not_false,cond_true]
  ·have:=fin (yab a0) (yHl a0) (yU3 a0) hc
   simp only[hc,Bool.not_false,Bool.not_true,cond_false];unfold yan at this ⊢;exact this
def yiN (a0:dA) (a1:Int) (a2:List Int):Option (zaY yfA×zak ydr):=bif yfM a0 a1 a2 then(fun n=>some ((n.1,()),(n.2,()))) (yfJ a0 a1 a2)else none
theorem yIL (a0:dA) (a1:Int) (a2:List Int) (h:yfM a0 a1 a2=true):yiN a0 a1 a2=(fun n=>some ((n.1,()),(n.2,()))) (yfJ a0 a1 a2):=by unfold yiN; rw[h]; rfl
def ytS:Con:=⟨ydr,yfA,fun x=>yiN x.1 x.2.1 x.2.2.1⟩
theorem yIF:ConOk prog 130 ytS:=(yGQ).mono (fun x r hk h=>zkY h (fun hq=>yIu x.1 x.2.1 x.2.2.1 hk hq))
def yVD:Code:=(f131.body).getD .skip
def yV7:Env:=zkw TT [] []
theorem yMs:FrOk prog ⟨yV7,4,fun _=>none⟩ yVD:=zkA mixed yc trivial
abbrev yxm:List Par:= [.rd tB]
abbrev yxL:List OT:= [⟨false,tI,.fz⟩]
def yDQ (a0:Bool):Option (zaY yxL×zak yxm) :=bif a0 then some ((0,()),()) else some ((6,()),())
theorem yRo:ConOk prog 131 ⟨yxm,yxL,fun x=>yDQ x.1⟩:=zkI (yMs) func131 ntmps131.symm fun x=>by kernel_rfl
def ypJ (a0:Bool):Int :=bif a0 then 0 else 6
def yC8:Con:=⟨yxm,yxL,fun x=>(fun n=>some ((n,()),())) (ypJ x.1)⟩
theorem yTJ (a0:Bool):yDQ a0=(fun n=>some ((n,()),())) (ypJ a0):=zkV (p:=fun(n:Int)=>((n,()),())) (zkG (p:=fun(n:Int)=>((n,()),())) rfl rfl)
theorem yUy:ConOk prog 131 yC8:=(yRo).mono (fun x r _ h=>(yTJ x.1).trans h)
def yG4:Code:=(f58.body).getD .skip
def yG8:Env:=zkw TT [(55,yd7),(95,yjZ),(109,ycJ),(129,ysN),(130,ytS),(131,yC8)] []
theorem yES:FrOk prog ⟨yG8,55,fun _=>none⟩ yG4:=zkA mixed yc ⟨yg9,ytk,yfK,yFa,yIF,yUy,trivial⟩
abbrev yhh:List Par:= [.rd tA,.rd tI,.rd tL]
abbrev ymy:List OT:= [⟨false,tA,(.pr .fz (.pr (.pr .fz .fz) (.pr (.ow (.pr (.ow (.ow .fz)) (.pr (.ow (.pr .fz (.ow .fz))) (.pr .fz (.ow .fz))))) (.pr .fz (.pr .fz (.pr .fz (.pr .fz (.pr .fz (.pr (.ow (.pr .fz (.ow .fz))) (.pr .fz (.pr .fz .fz)))))))))))⟩,⟨false,tI,.fz⟩]
def ykf (a0:dA) (a1:Int) (a2:List Int):Option (zaY ymy×zak yhh) :=let r1:=ybs a0;let r2:=yG a0;bif(!(!r2))then let r3:=ydK a0.2.1 a2;bif(!r3)then some ((r1,1,()),()) else bif a0.2.2.2.2.2.2.2.2.2.2.1 then some ((r1,6,()),()) else let r4:=yam a0.2.1 a1;bif(!r4)then some ((r1,2,()),()) else bif a0.2.2.2.2.2.2.2.2.2.2.2 then some ((r1,5,()),()) else bif(!(a0.2.2.2.2.2.1==60000))then bif(leb 59990 a0.2.2.2.2.2.2.2.1)then some ((r1,7,()),()) else bnd (yiN r1 a1 a2) fun r5 =>let r6:=ypJ r5.1.1;some ((r5.2.1,r6,()),()) else some ((r1,7,()),()) else some ((r1,1,()),())
theorem yFV:ConOk prog 58 ⟨yhh,ymy,fun x=>ykf x.1 x.2.1 x.2.2.1⟩:=zkI (yES) func58 ntmps58.symm fun x=>by kernel_rfl
def yeH (a0:dA) (a1:Int) (a2:List Int):dA×Int:=yF9 a0 a1 a2
theorem yGM (a0:dA) (a1:Int) (a2:List Int) (hk:zjx yhh (a0,a1,a2,())):ykf a0 a1 a2=(fun n=>some ((n.1,n.2,()),())) (yeH a0 a1 a2):=by
 have hz:=fun h=>yv9 (a:=a0) (s:=a1) (d:=a2) h
 unfold ykf yeH yF9;unfold yE at hz ⊢;simp only[ybs,yG,yci,yhb,ybR]at hz ⊢;cases ha:yP a0
 ·rfl
 have hg:=yk.1 (yfU ha);have hc:=(yEA.1 ha).1;unfold ya3 at hc
 have hdo:ydK a0.2.1 a2=((a2.length:Int)==a0.2.1.1-1&&a2.all isW):=by
  unfold ydK;rw[ys6,wq (a0.2.1.1-1) (by omega) (by omega)];cases((a2.length:Int)==a0.2.1.1-1)<;>rfl
 rw[hdo,yvU,show yX a0.2.1 a1=(leb 0 a1&&leb a1 (a0.2.1.2-1))by unfold yX; rw[yfU ha]; rfl];rw[ha,wq (a0.2.1.1-1) (by omega) (by omega),wq (a0.2.1.2-1) (by omega) (by omega)]at hz;rw[wq (a0.2.1.1-1) (by omega) (by omega),wq (a0.2.1.2-1) (by omega) (by omega)];rw[show(a0.2.2.2.2.2.1==60000)=leb 60000 a0.2.2.2.2.2.1 by rw[Bool.eq_iff_iff,beq_iff_eq,zj7]; omega];unfold bne at hz ⊢;cases hl:((a2.length:Int)==a0.2.1.1-1)
 ·rfl
 cases hw:a2.all isW
 ·rfl
 rcases Bool.eq_false_or_eq_true a0.2.2.2.2.2.2.2.2.2.2.1 with hd | hd
 ·simp only[hd,Bool.not_true,Bool.not_false,Bool.and_self,cond_true,cond_false]; rfl
 cases hs:(leb 0 a1&&leb a1 (a0.2.1.2-1))
 ·simp only[hd,Bool.not_true,Bool.not_false,Bool.and_self,cond_true,cond_false]; rfl
 rcases Bool.eq_false_or_eq_true a0.2.2.2.2.2.2.2.2.2.2.2 with hb | hb
 ·simp only[hd,hb,Bool.not_true,Bool.not_false,Bool.and_self,cond_true,cond_false]; rfl
 cases h6:leb 60000 a0.2.2.2.2.2.1
 ·cases h7:leb 59990 a0.2.2.2.2.2.2.2.1
  ·simp only[hd,hb,Bool.not_true,Bool.not_false,Bool.and_self,cond_true,cond_false,beq_self_eq_true]
   have hso:yX a0.2.1 a1=true:=by unfold yX; rw[yfU ha,hs]; rfl
   rw[yIL a0 a1 a2 (by unfold yfM; rw[show yb a0=false from hd,hso,hl,beq_iff_eq.2 (yHk ha)]; rfl)];simp only[zkH,yfJ,ypJ];rw[yZp];cases yb (yah a0 a1 a2).2<;>rfl
  ·simp only[hd,hb,Bool.not_true,Bool.not_false,Bool.and_self,cond_true,cond_false]; rfl
 ·simp only[hd,hb,Bool.not_true,Bool.not_false,Bool.and_self,cond_true,cond_false]; rfl
def ysM:Con:=⟨yhh,ymy,fun x=>(fun n=>some ((n.1,n.2,()),())) (yeH x.1 x.2.1 x.2.2.1)⟩
theorem yGV:ConOk prog 58 ysM:=(yFV).mono (fun x r hk h=>(yGM x.1 x.2.1 x.2.2.1 hk).trans h)
abbrev ygQ:List Par:= [.kp tWs (.ow (.pr .fz (.ow .fz))),.rd tI,.kp tWs (.ow (.pr .fz (.ow .fz)))]
abbrev ygR:List OT:= [⟨false,tWs,(.ow (.pr .fz (.ow .fz)))⟩]
end
end Go.Tf
namespace Go.Proofs
noncomputable section
open Go.Tf Go.RowKit Go.Lib
set_option synthInstance.maxHeartbeats 400000
set_option synthInstance.maxSize 10000
set_option linter.unusedVariables false
set_option linter.unusedSimpArgs false
set_option maxRecDepth 100000
theorem _root_.Go.Tf.isSome_setCells (b:Nat) (vs:List Value) (o:Nat) (w:World) (h: ∀j,j<vs.length→(w.cell? ⟨b,o+j,none⟩).isSome=true) (k:Nat) (hk:(w.cell? ⟨b,k,none⟩).isSome=true):((w.setCells b o vs).cell? ⟨b,k,none⟩).isSome=true:=by
 by_cases hin:o≤k∧k<o+vs.length
 ·have:=World.cell?_setCells_in b vs o w h (k-o) (by omega)
  rw[show o+(k-o)=k by omega]at this;rw[this]; rfl
 ·rw[World.cell?_setCells_out b vs o w ⟨b,k,none⟩ (fun _ _=>by show k<o∨o+vs.length≤k; omega)]
  exact hk
def Hdd (p:Prop):Prop:=p
theorem Hdd.out {p:Prop} (h:Hdd p):p:=h
theorem yzU {P:Program} (w:World) (dT sT ty elem:TypeId) (k b o dLen dCap:Nat) (a:Addr) (sLen sCap:Nat) (cs:List Value)
  (hu:P.underlying dT=some (.slice elem)) (hs:(P.info? elem).map (·.size)=some k) (hn:cs.length=Nat.min sLen dLen*k)
  (hsrc: ∀j v,cs[j]? =some v→w.cell? (a.add j)=some v) (hc: ∀j,j<cs.length→(w.cell? ⟨b,o+j,none⟩).isSome=true) (hf: ∀j,j<cs.length→w.frozen? ⟨b,o+j,none⟩=false) (h1: ∀v∈cs,v.oneCell'=true) :
  (Builtin.copy_ #[dT,sT] ty #[.slice (some ⟨b,o,none⟩) dLen dCap,.slice (some a) sLen sCap]).run P w= .ok (goInt (Nat.min sLen dLen)) (w.setCells b o cs):=by
 have hl:=run_loadCells_list (P:=P) w a cs hsrc;have hst:=run_storeCells_cells (P:=P) b o cs 0 w (by simpa using hc) (by simpa using hf) h1;cases hq:P.info? elem with
 | none=>simp[hq]at hs
 | some i =>
  have hi:i.size=k:=by simpa [hq]using hs
  simp[Builtin.copy_,run_underlying hu,Builtin.lenOf,Builtin.firstCells,sizeOf,typeInfo,hq,hi,← hn,hl,hst]
set_option maxHeartbeats 4000000 in
set_option maxRecDepth 100000 in
theorem yYG (w:World) (b off n c:Nat) (va:Option Addr) (vc:Nat) (r:Value) (w':World) (hnc:n≤c)
  (hr:(Builtin.append_ #[29,29] 29 #[.slice (some ⟨b,off,none⟩) n c,.slice va 1 vc]).run Tryz.prog w= .ok r w') :
  Calls Tryz.prog 137 #[.slice (some ⟨b,off,none⟩) n c,.int .i64 n,.slice va 1 vc] w fun e w2=>e= .returned r∧w2=w':=by
 have hz1: ¬((1:Int)=0):=by omega
 go_enter Tryz.func137,Tryz.ntmps137
 go_wp2_with (at_builtin; refine Lib.wpList_append_run _ rfl _ _ _ _ rfl _ _ rfl rfl _ _ hr ?_)
 all_goals (go_ret; exact⟨rfl,rfl⟩)
set_option maxHeartbeats 4000000 in
set_option maxRecDepth 100000 in
theorem y0J (w:World) (va:Option Addr) (vc:Nat) (r:Value) (w':World)
  (hr:(Builtin.append_ #[29,29] 29 #[.slice none 0 0,.slice va 1 vc]).run Tryz.prog w= .ok r w') :
  Calls Tryz.prog 137 #[.slice none 0 0,.int .i64 0,.slice va 1 vc] w fun e w2=>e= .returned r∧w2=w':=by
 have hz1: ¬((1:Int)=0):=by omega
 go_enter Tryz.func137,Tryz.ntmps137
 go_wp2_with (at_builtin; refine Lib.wpList_append_run _ rfl _ _ _ _ rfl _ _ rfl rfl _ _ hr ?_)
 all_goals (go_ret; exact⟨rfl,rfl⟩)
set_option maxHeartbeats 4000000 in
set_option maxRecDepth 100000 in
theorem yZE (w:World) (b off n c i vb voff vc:Nat) (cs vs:List Value) (hi:i<n) (hroom:n+1≤c) (hn63:n<9223372036854775807) (hvb:vb≠b) (hund:Tryz.prog.underlying 29=some (.slice 123)) (hsz:(Tryz.prog.info? 123).map (·.size)=some 2) (hso: ∀w,(Go.sizeOf 123).run Tryz.prog w= .ok 2 w)
  (hcl:cs.length=(n-i)*2) (hvl:vs.length=2)
  (hcs:Hdd (∀j v,cs[j]? =some v→w.cell? ⟨b,off+i*2+j,none⟩=some v)) (hsp:Hdd (∀j,j<(n+1)*2→(w.cell? ⟨b,off+j,none⟩).isSome=true)) (hfz:Hdd (∀j,j<(n+1)*2→w.frozen? ⟨b,off+j,none⟩=false))
  (hvs:Hdd (∀j v,vs[j]? =some v→w.cell? ⟨vb,voff+j,none⟩=some v)) (h1c:Hdd (∀v∈cs,v.oneCell'=true)) (h1v:Hdd (∀v∈vs,v.oneCell'=true))
  (tA tB:TypeId) (kA kB:Nat) (hsa:w.shape? vb=some (tA,kA)) (hsb:w.shape? b=some (tB,kB)) (hkB:kB≠0) (hfa:w.frozen? ⟨vb,voff,none⟩=false) (hfe:w.frozen? ⟨vb,kA,none⟩=false) :
  Calls Tryz.prog 137 #[.slice (some ⟨b,off,none⟩) n c,.int .i64 i,.slice (some ⟨vb,voff,none⟩) 1 vc] w fun e w' =>
   e= .returned (.slice (some ⟨b,off,none⟩) (n+1) c)∧w'=(w.drew.setCells b (off+(i+1)*2) cs).setCells b (off+i*2) vs:=by
 have mixed:Tryz.prog.follows .mixedOrders=true:=by kernel_rfl
 have hz1: ¬((1:Int)=0):=by omega
 have hz2: ¬((i:Int)=(n:Int)):=by omega
 have hov: ∀lb cb,(callFunc 189 #[.slice (some ⟨vb,voff,none⟩) 1 vc,.slice (some ⟨b,off+(i+1)*2,none⟩) lb cb]).run Tryz.prog w= .ok (.value (.bool false)) w:=fun lb cb=>by
  rw[run_callFunc_extern Tryz.func189 (by kernel_rfl) (by kernel_rfl) (by kernel_rfl) (e:=Extern.SlicesOverlaps.overlaps #[29,29] #[4]) (by kernel_rfl),
   Lib.run_overlaps_apart w 29 4 123 hund 2 hso ⟨vb,voff,none⟩ ⟨b,off+(i+1)*2,none⟩ 1 vc lb cb hvb tA tB kA kB hsa hsb hkB hfa hfe]
  rfl
 have hw1:IntKind.i64.wrap ((i:Int)+1)=(i:Int)+1:=by rw[IntKind.wrap_i64]; omega
 have hb1:(0:Int)≤(i:Int)+1:=by omega
 have hin:i≤n:=by omega
 have htn:((i:Int)+1).toNat=i+1:=by omega
 have hb2: ¬(c=i+1):=by omega
 have hb3:(i:Int)≤(n:Int)+1:=by omega
 have hb4: ¬(c=i):=by omega
 have hcp1: ∀ty dc sc,(Builtin.copy_ #[29,29] ty #[.slice (some ⟨b,off+(i+1)*2,none⟩) (n-i) dc,.slice (some ⟨b,off+i*2,none⟩) (n+1-i) sc]).run Tryz.prog w.drew= .ok (goInt (Nat.min (n+1-i) (n-i))) (w.drew.setCells b (off+(i+1)*2) cs):=fun ty dc sc =>
  yzU w.drew _ _ ty 123 2 b (off+(i+1)*2) (n-i) dc ⟨b,off+i*2,none⟩ (n+1-i) sc cs hund hsz (by rw[hcl]; simp only[Nat.min_def]; split<;>omega)
   (fun j v hj=>by rw[zaO]; exact hcs.out j v hj)
   (fun j hj=>by rw[Nat.add_assoc]; exact hsp.out _ (by omega)) (fun j hj=>by rw[Nat.add_assoc]; exact hfz.out _ (by omega)) h1c.out
 obtain⟨W1,hW1⟩: ∃W1,W1=w.drew.setCells b (off+(i+1)*2) cs:=⟨_,rfl⟩
 have hsp1: ∀k,k<(n+1)*2→(W1.cell? ⟨b,off+k,none⟩).isSome=true:=fun k hk=>by
  rw[hW1];exact Tf.isSome_setCells b _ _ _ (fun j hj=>by rw[Nat.add_assoc]; exact hsp.out _ (by omega)) _ (hsp.out k hk)
 have hcp2: ∀(W:World),(∀x,W.cell? x=W1.cell? x)→(∀x,W.frozen? x=W1.frozen? x)→ ∀ty dc,(Builtin.copy_ #[29,29] ty #[.slice (some ⟨b,off+i*2,none⟩) (n+1-i) dc,.slice (some ⟨vb,voff,none⟩) 1 vc]).run Tryz.prog W= .ok (goInt (Nat.min 1 (n+1-i))) (W.setCells b (off+i*2) vs):=fun W hWc hWf ty dc =>
  yzU W _ _ ty 123 2 b (off+i*2) (n+1-i) dc ⟨vb,voff,none⟩ 1 vc vs hund hsz (by rw[hvl]; simp only[Nat.min_def]; split<;>omega)
   (fun j v hj=>by
    rw[zaO,hWc,hW1,World.cell?_setCells_out b _ _ _ _ (fun h _=>absurd h hvb)]
    exact hvs.out j v hj)
   (fun j hj=>by rw[hWc,Nat.add_assoc]; exact hsp1 _ (by omega)) (fun j hj=>by rw[hWf,hW1,World.frozen?_setCells,Nat.add_assoc]; exact hfz.out _ (by omega)) h1v.out
 rw[← hW1]at hcp1;clear hsp1
 go_enter Tryz.func137,Tryz.ntmps137
 go_wp2_with (simp only[hov])
 go_region_law_o (refine step_copy_runI rfl _ _ 29 29 rfl _ _ (by simp[Act.eval,Act.put]) (by simp[Act.eval,Act.put]) (hcp1 _ _ _) ?_)
 go_wp2_with (at_builtin; refine wpList_copy_runI _ rfl _ _ 29 29 rfl _ _ rfl rfl (hcp2 _ (fun _=>rfl) (fun _=>rfl) _ _) ?_)
 go_ret
 exact⟨rfl,rfl⟩
set_option maxHeartbeats 4000000 in
set_option maxRecDepth 100000 in
theorem y0c (w:World) (b off n c i vb voff vc:Nat) (pre cs vs:List Value) (hi:i<n) (hnc:n≤c) (hroom:c<n+1) (hbig:(n+1)*32≤140737488355328) (hund:Tryz.prog.underlying 29=some (.slice 123)) (hun3:Tryz.prog.underlying 3=some (.int .i64)) (i0:TypeInfo) (hi0:Tryz.prog.info? 123=some i0) (z:Value) (hz0:i0.zero=some z) (hsz:i0.size=2) (hbz:i0.bytes=32) (hzc:z.cells.size=2)
  (hpl:pre.length=i*2) (hcl:cs.length=(n-i)*2) (hvl:vs.length=2) (hbw:b<w.heap.size) (hvw:vb<w.heap.size)
  (hpre:Hdd (∀j v,pre[j]? =some v→w.cell? ⟨b,off+j,none⟩=some v)) (hcs:Hdd (∀j v,cs[j]? =some v→w.cell? ⟨b,off+i*2+j,none⟩=some v))
  (hvs:Hdd (∀j v,vs[j]? =some v→w.cell? ⟨vb,voff+j,none⟩=some v)) (h1c:Hdd (∀v∈cs,v.oneCell'=true)) (h1v:Hdd (∀v∈vs,v.oneCell'=true)) :
  Calls Tryz.prog 137 #[.slice (some ⟨b,off,none⟩) n c,.int .i64 i,.slice (some ⟨vb,voff,none⟩) 1 vc] w fun e w' =>
   e= .returned (.slice (some ⟨w.heap.size,0,none⟩) (n+1) (grownCap w (n+1) c 123)) ∧
   w'=(((w.alloc (.cells (pre.toArray++Builtin.zeroCells z.cells (n+1-i)++Builtin.zeroCells z.cells (grownCap w (n+1) c 123-(n+1))) 123)).drew.setCells w.heap.size (i*2) vs).drew).setCells w.heap.size ((i+1)*2) cs:=by
 have mixed:Tryz.prog.follows .mixedOrders=true:=by kernel_rfl
 have hz1: ¬((1:Int)=0):=by omega
 have hz2: ¬((i:Int)=(n:Int)):=by omega
 have hz3:(c:Int)<(n:Int)+1:=by omega
 have hszm:(Tryz.prog.info? 123).map (·.size)=some 2:=by rw[hi0]; simp[hsz]
 have hkk:(n:Int)+1-(i:Int)=((n+1-i:Nat):Int):=by omega
 have hik:i+(n+1-i)=n+1:=by omega
 have hold:(Builtin.firstCells i0.size i (.slice (some ⟨b,off,none⟩) i c)).run Tryz.prog w.drew= .ok pre.toArray w.drew:=by
  have hl:=run_loadCells_list (P:=Tryz.prog) w.drew ⟨b,off,none⟩ pre (fun j v hj=>by rw[zaO]; exact hpre.out j v hj);rw[hpl]at hl;simp[Builtin.firstCells,hsz,hl]
 have hrz: ∀ty,(Builtin.append_ #[29,3] ty #[.slice (some ⟨b,off,none⟩) i c,.int .i64 ((n:Int)+1-(i:Int))]).run Tryz.prog w =
   .ok (.slice (some ⟨w.heap.size,0,none⟩) (n+1) (grownCap w (n+1) c 123)) (w.drew.alloc (.cells (pre.toArray++Builtin.zeroCells z.cells (n+1-i)++Builtin.zeroCells z.cells (grownCap w (n+1) c 123-(n+1))) 123)):=fun ty=>by
  have h:=Lib.run_append_grow_zeros w 29 3 ty 123 i0 z .i64 .i64 hund hun3 hi0 hz0 (some ⟨b,off,none⟩) i c pre hold (n+1-i) (by omega) (by omega) (by omega) (by omega) (by rw[hbz]; omega) (by rw[hbz,hik]; exact growslice_fits hroom hbig);rw[hik]at h;rw[hkk];exact h
 obtain⟨G,hG⟩: ∃G,G=grownCap w (n+1) c 123:=⟨_,rfl⟩;obtain⟨ROW,hROW⟩: ∃ROW:Array Value,ROW=pre.toArray++Builtin.zeroCells z.cells (n+1-i)++Builtin.zeroCells z.cells (G-(n+1)):=⟨_,rfl⟩;rw[← hG]at hrz ⊢;rw[← hROW]at hrz ⊢
 have hRl:(n+1)*2≤ROW.size:=by
  rw[hROW,Array.size_append,Array.size_append,size_zeroCells,size_zeroCells,hzc,List.size_toArray,hpl];omega
 obtain⟨W1,hW1⟩: ∃W1,W1=w.drew.alloc (.cells ROW 123):=⟨_,rfl⟩;rw[← hW1]at hrz
 have hN: ∀j,j<(n+1)*2→(W1.cell? ⟨w.heap.size,j,none⟩).isSome=true:=fun j hj=>by
  rw[hW1,World.cell?_alloc_at (w:=w.drew) ROW _ w.heap.size j rfl,Array.getElem?_eq_getElem (by omega)]; rfl
 have hNf: ∀j,W1.frozen? ⟨w.heap.size,j,none⟩=false:=fun j=>by rw[hW1]; exact World.frozen?_alloc_at (w:=w.drew) ROW _ w.heap.size j rfl
 have hOb: ∀j v,w.cell? ⟨b,j,none⟩=some v→W1.cell? ⟨b,j,none⟩=some v:=fun j v h=>by rw[hW1,World.cell?_alloc_past (w:=w.drew) _ b j hbw]; exact h
 have hOv: ∀j v,w.cell? ⟨vb,j,none⟩=some v→W1.cell? ⟨vb,j,none⟩=some v:=fun j v h=>by rw[hW1,World.cell?_alloc_past (w:=w.drew) _ vb j hvw]; exact h
 have hcpA: ∀(W:World),(∀x,W.cell? x=W1.cell? x)→(∀x,W.frozen? x=W1.frozen? x)→ ∀ty dc,(Builtin.copy_ #[29,29] ty #[.slice (some ⟨w.heap.size,i*2,none⟩) (n+1-i) dc,.slice (some ⟨vb,voff,none⟩) 1 vc]).run Tryz.prog W= .ok (goInt (Nat.min 1 (n+1-i))) (W.setCells w.heap.size (i*2) vs):=fun W hWc hWf ty dc =>
  yzU W _ _ ty 123 2 w.heap.size (i*2) (n+1-i) dc ⟨vb,voff,none⟩ 1 vc vs hund hszm (by rw[hvl]; simp only[Nat.min_def]; split<;>omega)
   (fun j v hj=>by rw[zaO,hWc]; exact hOv _ v (hvs.out j v hj))
   (fun j hj=>by rw[hWc]; exact hN _ (by omega)) (fun j hj=>by rw[hWf]; exact hNf _) h1v.out
 have hGn:n+1≤G:=by rw[hG]; exact grownCap_ge w _ _ _
 have hG63:G≤9223372036854775807:=by
  have:=grownCap_le_maxLen w (n+1) c 123 (by unfold maxLen; omega);rw[← hG]at this;unfold maxLen at this;omega
 have hGi: ¬(G=i):=by omega
 have hGim: ¬(G=i+1):=by omega
 have hci: ¬(c=i):=by omega
 have hbN:b≠w.heap.size:=by omega
 have hcpB: ∀(W:World),(∀x,W.cell? x=(W1.setCells w.heap.size (i*2) vs).cell? x)→(∀x,W.frozen? x=(W1.setCells w.heap.size (i*2) vs).frozen? x)→ ∀ty dc sc,(Builtin.copy_ #[29,29] ty #[.slice (some ⟨w.heap.size,(i+1)*2,none⟩) (n-i) dc,.slice (some ⟨b,off+i*2,none⟩) (n-i) sc]).run Tryz.prog W= .ok (goInt (Nat.min (n-i) (n-i))) (W.setCells w.heap.size ((i+1)*2) cs):=fun W hWc hWf ty dc sc =>
  yzU W _ _ ty 123 2 w.heap.size ((i+1)*2) (n-i) dc ⟨b,off+i*2,none⟩ (n-i) sc cs hund hszm (by rw[hcl]; simp only[Nat.min_def]; split<;>omega)
   (fun j v hj=>by
    rw[zaO,hWc,World.cell?_setCells_out _ _ _ _ _ (fun h _=>absurd h hbN)]
    exact hOb _ v (hcs.out j v hj))
   (fun j hj=>by rw[hWc]; exact Tf.isSome_setCells _ _ _ _ (fun t ht=>hN _ (by omega)) _ (hN _ (by omega)))
   (fun j hj=>by rw[hWf,World.frozen?_setCells]; exact hNf _) h1c.out
 subst hW1;have hE1: ∀x,((w.alloc (.cells ROW 123)).drew).cell? x=(w.drew.alloc (.cells ROW 123)).cell? x:=fun x=>rfl
 have hE2: ∀x,((w.alloc (.cells ROW 123)).drew).frozen? x=(w.drew.alloc (.cells ROW 123)).frozen? x:=fun x=>rfl
 have hF1: ∀x,(((w.alloc (.cells ROW 123)).drew.setCells w.heap.size (i*2) vs).drew).cell? x=((w.drew.alloc (.cells ROW 123)).setCells w.heap.size (i*2) vs).cell? x:=fun x=>rfl
 have hF2: ∀x,(((w.alloc (.cells ROW 123)).drew.setCells w.heap.size (i*2) vs).drew).frozen? x=((w.drew.alloc (.cells ROW 123)).setCells w.heap.size (i*2) vs).frozen? x:=fun x=>rfl
 have hw1:IntKind.i64.wrap ((i:Int)+1)=(i:Int)+1:=by rw[IntKind.wrap_i64]; omega
 have hb1:(0:Int)≤(i:Int)+1:=by omega
 have hin:i≤n:=by omega
 have htn:((i:Int)+1).toNat=i+1:=by omega
 have hb3:(i:Int)≤(n:Int):=by omega
 clear hkk hik hold hROW hG hRl
 go_enter Tryz.func137,Tryz.ntmps137
 go_wp2_with (first
  | (at_builtin; refine Lib.wpList_append_run _ rfl _ _ _ _ rfl _ _ rfl rfl _ _ (hrz _) ?_)
  | (at_builtin; refine wpList_copy_runI _ rfl _ _ 29 29 rfl _ _ rfl rfl (hcpA _ hE1 hE2 _ _) ?_)
  | (at_builtin; refine wpList_copy_runI _ rfl _ _ 29 29 rfl _ _ rfl rfl (hcpB _ (fun _=>rfl) (fun _=>rfl) _ _ _) ?_))
 go_region_law_o (refine step_copy_runI rfl _ _ 29 29 rfl (.slice (some ⟨w.heap.size,(i+1)*2,none⟩) (n-i) (G-(i+1))) (.slice (some ⟨b,off+i*2,none⟩) (n-i) (c-i)) (by simp[Act.eval,Act.put]) (by simp[Act.eval,Act.put]) (hcpB _ hF1 hF2 3 (G-(i+1)) (c-i)) ?_)
 go_wp2
 go_ret
 exact⟨rfl,rfl⟩
end
end Go.Proofs
namespace Go.Tf
noncomputable section
open Go.Proofs Go.Proofs.Tryz IntKind
set_option synthInstance.maxHeartbeats 400000
set_option synthInstance.maxSize 10000
set_option linter.unusedVariables false
set_option linter.unusedSimpArgs false
set_option maxRecDepth 100000
abbrev aW:Ann:= .pr .fz (.ow .fz)
theorem yM7 {α:Type} {l:List α} {i j:Nat} (h:i=j):l[i]? =l[j]? :=h ▸ rfl
theorem yDs {b o n:Nat} {vs:List Value} {w:World} (hc:zh (hp w) b o n=some vs): ∀j v,vs[j]? =some v→w.cell? ⟨b,o+j,none⟩=some v:=fun j v hj=>by
 have hl:=zaA hc;have hj2:=(List.getElem?_eq_some_iff.1 hj).1;rw[zb1,← zab hc j (by omega)]; exact hj
theorem y0E {w:World} {b:Nat} {c:Array Value} {T:TypeId} (hb:hp w b=some (.cells c T (0,0))) {j:Nat} (hj:j<c.size):(w.cell? ⟨b,j,none⟩).isSome=true∧w.frozen? ⟨b,j,none⟩=false:=by
 refine⟨by rw[zb1]; unfold zL; rw[hb]; simp[hj],?_⟩;unfold World.frozen?;have:w.heap[b]? =some (.cells c T (0,0)):=hb;simp[this]
theorem y06 {w:World} {b:Nat} {c:Array Value} {T:TypeId} (hb:hp w b=some (.cells c T (0,0))) (j:Nat):w.frozen? ⟨b,j,none⟩=false:=by
 unfold World.frozen?;have:w.heap[b]? =some (.cells c T (0,0)):=hb;simp[this]
theorem yX4 {w:World} {b:Nat} {c:Array Value} {T:TypeId} (hb:hp w b=some (.cells c T (0,0))):w.shape? b=some (T,c.size):=by
 unfold World.shape?;have:w.heap[b]? =some (.cells c T (0,0)):=hb;simp[this]
theorem yYy {w:World} {b o:Nat} {c:Array Value} {T:TypeId} {v:Value} (hb:hp w b=some (.cells c T (0,0))) (ho:o<c.size):w.setCell ⟨b,o,none⟩ v=World.setBlk w b (c.setIfInBounds o v) T:=by
 have hb':w.heap[b]? =some (.cells c T (0,0)):=hb;unfold World.setCell World.setBlk;congr 1;apply Array.ext_getElem?;intro j;rw[Array.getElem?_modify,Array.getElem?_setIfInBounds];by_cases hj:b=j
 ·subst hj
  have hlt2:b<w.heap.size:=(Array.getElem?_eq_some_iff.1 hb').1;have hg:w.heap[b]=Obj.cells c T (0,0):=by rw[Array.getElem?_eq_getElem hlt2]at hb'; simpa using hb'
  simp[hlt2,hg]
 ·simp[hj]
theorem ym3 {b:Nat} {T:TypeId}: ∀(vs:List Value) (o:Nat) (w:World) (c:Array Value),hp w b=some (.cells c T (0,0))→o+vs.length≤c.size→w.setCells b o vs=World.setBlk w b (zi c o vs) T
 | [],o,w,c,hb,_=>by
  have hb':w.heap[b]? =some (.cells c T (0,0)):=hb;show w=_;unfold World.setBlk zi
  have:w.heap.setIfInBounds b (.cells c T (0,0))=w.heap:=by
   apply Array.ext_getElem?;intro j;rw[Array.getElem?_setIfInBounds];split
   ·subst_vars
    split
    ·exact hb'.symm
    ·rename_i hn; rw[Array.getElem?_eq_none (by omega)]
   ·rfl
  rw[this]
 | v::vs,o,w,c,hb,hl=>by
  simp only[List.length_cons]at hl;have hsz:b<w.heap.size:=(Array.getElem?_eq_some_iff.1 (show w.heap[b]? =_ from hb)).1;rw[World.setCells,yYy hb (by omega),ym3 vs (o+1) _ (c.setIfInBounds o v) (zbo hsz) (by simp; omega)];show World.setBlk (World.setBlk w b (c.setIfInBounds o v) T) b (zi (c.setIfInBounds o v) (o+1) vs) T=World.setBlk w b (zi (c.setIfInBounds o v) (o+1) vs) T;unfold World.setBlk;simp
theorem yE0 {fp0 fpV:List (List Nat)} {i:Nat}:List.Perm ((fp0.take i++fpV)++fp0.drop i).flatten (fp0.flatten++fpV.flatten):=by
 have h:fp0.flatten=(fp0.take i).flatten++(fp0.drop i).flatten:=by rw[← List.flatten_append,List.take_append_drop]
 rw[List.flatten_append,List.flatten_append,h,List.append_assoc,List.append_assoc];exact List.Perm.append_left _ List.perm_append_comm
theorem yE1 {h h':za} {Z:Nat→Prop} {l:List dW} {x:dW} {vs0 vsV:List Value} {f0 fV:List (List Nat)} {i B o cap:Nat} {c:Array Value} {T:TypeId}
  (e0:Elems h Z tW aW l vs0 f0) (eV:Elems h Z tW aW [x] vsV fV) (hi:i≤l.length) (hk: ∀b,Z b→h' b=h b) (hf: ∀b∈f0.flatten++fV.flatten,h' b=h b) (hB:h' B=some (.cells c T (0,0))) (hcap:o+cap*2≤c.size) (hl:l.length+1≤cap) (hbnd:(l.length+1)*32≤2^47)
  (hc:zh h' B o ((l.length+1)*2)=some (vs0.take (i*2)++vsV++vs0.drop (i*2))):Own h' Z (.sl tW) (.ow aW) (l.take i++ [x]++l.drop i) [.slice (some ⟨B,o,none⟩) (l.length+1) cap] (B::((f0.take i++fV)++f0.drop i).flatten):=by
 have s1:=Elems.sub e0 0 i (by omega);have s2:=Elems.sub e0 i (l.length-i) (by omega);have hlen:=e0.len;have hfl:=e0.fl;have hsz:tW.size=2:=rfl;rw[hsz]at hlen s1 s2;rw[Nat.zero_mul,List.drop_zero,List.drop_zero,List.drop_zero]at s1;rw[List.take_of_length_le (l:=l.drop i) (by rw[List.length_drop]; omega),List.take_of_length_le (l:=vs0.drop (i*2)) (by rw[List.length_drop]; omega),List.take_of_length_le (l:=f0.drop i) (by rw[List.length_drop]; omega)]at s2;have e:=(s1.append eV).append s2;have e':=e.keep hk (fun _ h=>h) (fun b hb=>hf b ((yE0 (fp0:=f0) (fpV:=fV) (i:=i)).mem_iff.1 hb));have hL:(l.take i++ [x]++l.drop i).length=l.length+1:=by simp; omega
 have:=e'.own (b:=B) (o:=o) (cap:=cap) hB (by rw[hL]; exact hc) (by exact hcap) (by rw[hL]; exact hl) (by rw[hL]; exact hbnd);rw[hL]at this;exact this
theorem yLz {h:za} {B o n i:Nat} {X:Array Value} {T:TypeId} {vs0 vsV:List Value} (hB:h B=some (.cells X T (0,0))) (hl:vs0.length=n*2) (hv:vsV.length=2) (hi:i≤n)
  (h1: ∀j,j<i*2→X[o+j]? =vs0[j]?) (h2: ∀j,j<2→X[o+i*2+j]? =vsV[j]?) (h3: ∀j,j<(n-i)*2→X[o+(i+1)*2+j]? =vs0[i*2+j]?):zh h B o ((n+1)*2)=some (vs0.take (i*2)++vsV++vs0.drop (i*2)):=by
 have hL:(vs0.take (i*2)++vsV++vs0.drop (i*2)).length=(n+1)*2:=by simp[hl,hv]; omega
 have:=zap (h:=h) (b:=B) (vs0.take (i*2)++vsV++vs0.drop (i*2)) o (fun j hj=>by
  rw[hL]at hj;unfold zL;rw[hB];show X[o+j]? =_;by_cases g1:j<i*2
  ·rw[h1 j g1,List.append_assoc,List.getElem?_append_left (by rw[List.length_take]; omega),List.getElem?_take,if_pos g1]
  ·by_cases g2:j<i*2+2
   ·rw[show o+j=o+i*2+(j-i*2)by omega,h2 _ (by omega),List.append_assoc,List.getElem?_append_right (by rw[List.length_take]; omega),List.getElem?_append_left (by rw[List.length_take]; omega),List.length_take]
    exact yM7 (by omega)
   ·rw[show o+j=o+(i+1)*2+(j-(i+1)*2)by omega,h3 _ (by omega),List.getElem?_append_right (by rw[List.length_append,List.length_take]; omega),List.length_append,List.length_take,hv,List.getElem?_drop]
    exact yM7 (by omega))
 rw[hL]at this; exact this
def yaW (l:List dW) (i:Int) (v:List dW):Bool:=leb 0 i&&(leb i (l.length:Int)&&(v.length==1&&decide ((l.length+1)*32≤2^47)))
def ygX (l:List dW) (i:Int) (v:List dW):List dW:=l.take i.toNat++v++l.drop i.toNat
def yI4:Con:=⟨ygQ,ygR,fun x=>bif yaW x.1 x.2.1 x.2.2.1 then some ((ygX x.1 x.2.1 x.2.2.1,()),())else none⟩
theorem yBP {a0 a1 a2:Value} {w:World} {Z:Nat→Prop} {fs:List (List Nat)} {l':List dW} {v:Value} {B:Nat} {w2:World} {g gl:List Nat} (hio:zby w2=zby w) (hsz:w.heap.size≤w2.heap.size)
  (hB:(w.heap.size≤B∧B<w2.heap.size)∨B∈fs.flatten) (hZ: ¬Z B) (hk: ∀b,b<w.heap.size→b∉fs.flatten→hp w2 b=hp w b) (hp0:g.Perm gl) (hgn:gl.Nodup) (hgB: ∀x∈gl,x≠B) (hgm: ∀x∈gl,x∈fs.flatten∧ ¬Z x) (ho:Own (hp w2) Z (.sl tW) (.ow aW) l' [v] (B::g)):DoneOk yI4 [a0,a1,a2] fs Z w ((l',()),()) (.returned v) w2:=by
 refine⟨[v],Z,[B::g],[[],[],[]],rfl,hio,hsz,hk,fun _ h=>h,fun _ h=> .inl h,⟨⟨[v],rfl,ho⟩,trivial⟩,⟨rfl,rfl,rfl,trivial⟩,?_,fun b hb=> ?_⟩
 ·simp only[List.flatten_cons,List.flatten_nil,List.append_nil,List.nodup_cons]
  exact⟨fun h=>hgB B (hp0.mem_iff.1 h) rfl,hp0.nodup_iff.2 hgn⟩
 ·simp only[List.flatten_cons,List.flatten_nil,List.append_nil,List.mem_cons]at hb
  rcases hb with rfl | hb
  ·exact⟨hB,hZ⟩
  ·have:=hgm b (hp0.mem_iff.1 hb)
   exact⟨.inr this.1,this.2⟩
theorem y0K (w:World) (Z R:Nat→Prop) (l:List dW) (i:Nat) (x:dW) (a0 a2:Value) (f0 f2:List Nat) (o0:Own (hp w) Z (.sl tW) (.ow aW) l [a0] f0) (o2:Own (hp w) Z (.sl tW) (.ow aW) [x] [a2] f2) (hi:i≤l.length) (hbnd:(l.length+1)*32≤2^47)
  (hlow: ∀b,Z b∨R b→b<w.heap.size) (hnd:(f0++f2).Nodup) (hfr: ∀b∈f0++f2,b<w.heap.size∧ ¬Z b∧ ¬R b):Calls prog 137 #[a0,.int .i64 (i:Int),a2] w (DoneOk yI4 [a0,.int .i64 (i:Int),a2] [f0,[],f2] Z w ((l.take i++ [x]++l.drop i,()),())):=by
 have hund:prog.underlying 29=some (.slice 123):=by kernel_rfl
 have hinf:(prog.info? 123).map (fun f=>(f.zero,f.size,f.bytes))=some (some (zA tW),tW.size,tW.bytes):=by kernel_rfl
 obtain⟨i0,hi0,hz0,hsz,hbz⟩: ∃i0,prog.info? 123=some i0∧i0.zero=some (zA tW)∧i0.size=2∧i0.bytes=32:=by
  cases hq:prog.info? 123 with
  | none=>rw[hq]at hinf; cases hinf
  | some f =>
   rw[hq]at hinf;simp only[Option.map_some,Option.some.injEq,Prod.mk.injEq]at hinf;exact⟨f,rfl,hinf.1,hinf.2.1,hinf.2.2⟩
 have hzc:(zA tW).cells.size=2:=rfl;have hnd1:=hnd;obtain⟨hndl,hndr,hdis⟩:=List.nodup_append.1 hnd1;have hZ0: ∀b∈f0,¬Z b:=fun b hb=>(hfr b (List.mem_append.2 (.inl hb))).2.1
 have hfl:([f0,[],f2]:List (List Nat)).flatten=f0++f2:=by simp
 obtain⟨hd,cap,hv0,_,hlc,hc0⟩:=Own.elems o0;obtain⟨hdv,capv,hvv,_,hlcv,hcv⟩:=Own.elems o2;rcases hcv with⟨h9,_⟩ | ⟨bv,ov,cv,Tv,vsV,fpV,rfl,hBv,hcapv,hfv,hcsv,eV⟩
 ·cases h9
 subst hv0 hvv;have hszt:tW.size=2:=rfl;have eV':=eV;have hvl:vsV.length=2:=by have:=eV.len; rw[hszt]at this; exact this
 rw[hszt]at hcsv hcapv;have h1v:=fun v hv=>ziE (eV.isCells (by decide) v hv)
 have hbvf:bv∈f2:=by rw[hfv]; exact List.mem_cons_self
 have hvlt:bv<w.heap.size:=(hfr bv (List.mem_append.2 (.inr hbvf))).1;rcases hc0 with⟨rfl,rfl,rfl,rfl⟩ | ⟨b,o,c,T,vs0,fp0,rfl,hB,hcap,hf0,hcs0,e0⟩
 ·
  have hi0':i=0:=by simpa using hi
  subst hi0'
  have hgm0: ∀x∈([]:List (List Nat)).flatten++fpV.flatten,x∈ []++f2:=fun x hx=>by
   simp only[List.flatten_nil,List.nil_append]at hx ⊢;rw[hfv]; exact List.mem_cons_of_mem _ hx
  have hgn0:(([]:List (List Nat)).flatten++fpV.flatten).Nodup:=by
   simp only[List.flatten_nil,List.nil_append];rw[hfv]at hndr;exact(List.nodup_cons.1 hndr).2
  rcases ziO (P:=prog) (w:=w) (t:=29) (e:=123) (z:=zA tW) hund hi0 hz0 (base:=none) (xa:=some ⟨bv,ov,none⟩) (sLen:=0) (sCap:=0) (n:=1) (c:=capv) (olds:= []) (news:=vsV) ⟨by simp,.inl rfl⟩ ⟨by rw[hvl,hsz],.inr ⟨bv,ov,rfl,by rw[hsz]; exact hcsv⟩⟩ (eV.isCells (by decide)) (Nat.le_refl _) (fun _=>rfl) (by omega) (by rw[hzc,hsz]) (by rw[hbz]; decide) (by omega) (fun h=>by omega)with⟨h,_⟩ | ⟨_,cap,rest,hcp,hrest,hr⟩
  ·omega
  ·refine(y0J w _ _ _ _ hr).mono fun e w2 ⟨he,hw2⟩=> ?_
   subst he hw2;rw[hsz]at hrest;have hnew:hp (World.push w.drew (.cells (([]:List Value).toArray++vsV.toArray++rest) 123)) w.heap.size=some (.cells (([]:List Value).toArray++vsV.toArray++rest) 123 (0,0)):=zcr (w:=w.drew);have hcs:(([]:List Value).toArray++vsV.toArray++rest).size=vsV.length+rest.size:=by simp
   refine yBP (B:=w.heap.size) rfl (by rw[zc9]; exact Nat.le_succ _) (.inl ⟨Nat.le_refl _,by rw[zc9]; exact Nat.lt_succ_self _⟩) (fun hz=>by have:=hlow _ (.inl hz); omega) (fun b hb _=>zar (w:=w.drew) hb) (yE0 (fp0:= []) (i:=0)) hgn0 (fun x hx=>by have:=(hfr x (hgm0 x hx)).1; omega) (fun x hx=>⟨by rw[hfl]; exact hgm0 x hx,(hfr x (hgm0 x hx)).2.1⟩) ?_;refine yE1 (h:=hp w) (vs0:= []) (f0:= []) (i:=0) Elems.nil eV' (Nat.le_refl _) (fun b hb=>zar (w:=w.drew) (hlow b (.inl hb))) (fun x hx=>zar (w:=w.drew) (hfr x (hgm0 x hx)).1) hnew (by rw[hcs]; omega) (by simpa using hcp) (by decide) ?_;have:=za7 hnew (o:=0) (n:=2) (by rw[hcs]; omega);show zh _ _ 0 2=_;rw[this];simp[hvl]
 ·have e0':=e0
  have hgm: ∀x∈fp0.flatten++fpV.flatten,x∈f0++f2:=fun x hx=>by
   rcases List.mem_append.1 hx with h | h
   ·exact List.mem_append.2 (.inl (by rw[hf0]; exact List.mem_cons_of_mem _ h))
   ·exact List.mem_append.2 (.inr (by rw[hfv]; exact List.mem_cons_of_mem _ h))
  have hgm2: ∀x∈fp0.flatten++fpV.flatten,x∈([f0,[],f2]:List (List Nat)).flatten∧ ¬Z x:=fun x hx=>⟨by rw[hfl]; exact hgm x hx,(hfr x (hgm x hx)).2.1⟩
  have hgl: ∀x∈fp0.flatten++fpV.flatten,x<w.heap.size:=fun x hx=>(hfr x (hgm x hx)).1
  have hgs: ∀x∈fp0.flatten++fpV.flatten,x≠w.heap.size:=fun x hx=>by have:=hgl x hx; omega
  have hnd3:((b::fp0.flatten)++(bv::fpV.flatten)).Nodup:=by rw[← hf0,← hfv]; exact hnd
  have hsub:(b::(fp0.flatten++fpV.flatten)).Sublist ((b::fp0.flatten)++(bv::fpV.flatten)):=List.Sublist.cons_cons _ (List.Sublist.append (List.Sublist.refl _) (List.sublist_cons_self _ _));have hgb':=hnd3.sublist hsub;rw[List.nodup_cons]at hgb';have hgn:=hgb'.2;have hgb: ∀x∈fp0.flatten++fpV.flatten,x≠b:=fun x hx e=>hgb'.1 (e ▸ hx)
  have hl0:=e0.len;rw[hszt]at hcs0 hcap hl0;have h1c:=fun v hv=>ziE (e0.isCells (by decide) v hv)
  have hbf:b∈f0:=by rw[hf0]; exact List.mem_cons_self
  have hbf':b∈f0++f2:=List.mem_append.2 (.inl hbf);obtain⟨hblt,hbZ,_⟩:=hfr b hbf';have hbvb:bv≠b:=fun e=>hdis b hbf bv hbvf e.symm
  have hkZ: ∀{w2:World},(∀b',b'≠b→hp w2 b'=hp w b')→ ∀b',Z b'→hp w2 b'=hp w b':=fun h b' hb'=>h b' (fun e=>hbZ (e ▸ hb'))
  by_cases hin:i=l.length
  ·subst hin
   rcases ziO (P:=prog) (w:=w) (t:=29) (e:=123) (z:=zA tW) hund hi0 hz0 (base:=some ⟨b,o,none⟩) (xa:=some ⟨bv,ov,none⟩) (sLen:=l.length) (sCap:=cap) (n:=1) (c:=capv) (olds:=vs0) (news:=vsV) ⟨by rw[hl0,hsz],.inr ⟨b,o,rfl,by rw[hsz]; exact hcs0⟩⟩ ⟨by rw[hvl,hsz],.inr ⟨bv,ov,rfl,by rw[hsz]; exact hcsv⟩⟩ (eV.isCells (by decide)) hlc (fun h=>by cases h) (by omega) (by rw[hzc,hsz]) (by rw[hbz]; exact hbnd) (by omega) (fun h ad had=>by cases had; exact⟨b,o,c,T,rfl,hB,by rw[hsz]; exact hcap⟩)with⟨hroom,h⟩ | ⟨_,cap2,rest,hcp,hrest,hr⟩
   ·rcases h with⟨h,_⟩ | ⟨b2,o2',cur,T2,hbo,hB2,hcap2,hr⟩
    ·cases h
    ·cases hbo
     rw[hB]at hB2;cases hB2;refine(yYG w b o l.length cap _ _ _ _ hlc hr).mono fun e w2 ⟨he,hw2⟩=> ?_
     subst he hw2;rw[hsz];have hBn:hp (World.setBlk w b (zi c (o+l.length*2) vsV) T) b=some (.cells (zi c (o+l.length*2) vsV) T (0,0)):=zbo hblt;have oth: ∀b',b'≠b→hp (World.setBlk w b (zi c (o+l.length*2) vsV) T) b'=hp w b':=fun b' h=>zbp h
     refine yBP (B:=b) rfl (by simp[World.setBlk]) (.inr (by rw[hfl]; exact hbf')) hbZ (fun b' _ hb'=>oth b' (fun e=>hb' (by rw[hfl,e]; exact hbf'))) (yE0 (i:=l.length)) hgn hgb hgm2 ?_;refine yE1 (h:=hp w) (vs0:=vs0) (i:=l.length) e0' eV' (Nat.le_refl _) (hkZ oth) (fun x hx=>oth x (hgb x hx)) hBn (by rw[za3]; exact hcap) hroom hbnd ?_;rw[List.take_of_length_le (by omega),List.drop_eq_nil_of_le (by omega),List.append_nil];have hL:(vs0++vsV).length=(l.length+1)*2:=by rw[List.length_append]; omega
     have:=zap (h:=hp (World.setBlk w b (zi c (o+l.length*2) vsV) T)) (b:=b) (vs0++vsV) o (fun j hj=>by
      rw[hL]at hj;unfold zL;rw[hBn];show(zi c (o+l.length*2) vsV)[o+j]? =_;rw[zah _ _ _ _ (by omega)];by_cases h1:j<l.length*2
      ·rw[if_neg (by omega),List.getElem?_append_left (by omega),zab hcs0 j h1]
       unfold zL; rw[hB]
      ·rw[if_pos (by omega),List.getElem?_append_right (by omega)]
       exact yM7 (by omega))
     rw[hL]at this; exact this
   ·refine(yYG w b o l.length cap _ _ _ _ hlc hr).mono fun e w2 ⟨he,hw2⟩=> ?_
    subst he hw2;rw[hsz]at hrest;have hnew:hp (World.push w.drew (.cells (vs0.toArray++vsV.toArray++rest) 123)) w.heap.size=some (.cells (vs0.toArray++vsV.toArray++rest) 123 (0,0)):=zcr (w:=w.drew);have hcs:(vs0.toArray++vsV.toArray++rest).size=vs0.length+vsV.length+rest.size:=by simp
    refine yBP (B:=w.heap.size) rfl (by rw[zc9]; exact Nat.le_succ _) (.inl ⟨Nat.le_refl _,by rw[zc9]; exact Nat.lt_succ_self _⟩) (fun hz=>by have:=hlow _ (.inl hz); omega) (fun b hb _=>zar (w:=w.drew) hb) (yE0 (i:=l.length)) hgn hgs hgm2 ?_;refine yE1 (h:=hp w) (vs0:=vs0) (i:=l.length) e0' eV' (Nat.le_refl _) (fun b hb=>zar (w:=w.drew) (hlow b (.inl hb))) (fun x hx=>zar (w:=w.drew) (hgl x hx)) hnew (by rw[hcs]; omega) hcp hbnd ?_;have:=za7 hnew (o:=0) (n:=(l.length+1)*2) (by rw[hcs]; omega);have t1:vs0.take (l.length*2)=vs0:=List.take_of_length_le (by omega);have t2:vs0.drop (l.length*2)= []:=List.drop_eq_nil_of_le (by omega);rw[this,t1,t2];simp only[Array.toList_append,List.drop_zero,List.append_nil,Option.some.injEq];rw[List.take_append_of_le_length (by rw[List.length_append]; omega),List.take_of_length_le (by rw[List.length_append]; omega)]
  ·have hlt:i<l.length:=by omega
   have hpl:(vs0.take (i*2)).length=i*2:=by rw[List.length_take]; omega
   have hcl:(vs0.drop (i*2)).length=(l.length-i)*2:=by rw[List.length_drop]; omega
   have hcsd:Hdd (∀j v,(vs0.drop (i*2))[j]? =some v→w.cell? ⟨b,o+i*2+j,none⟩=some v):=fun j v hj=>by
    rw[List.getElem?_drop]at hj;rw[Nat.add_assoc];exact yDs hcs0 _ v hj
   by_cases hroom:l.length+1≤cap
   ·have hin: ∀j,j<(l.length+1)*2→(w.cell? ⟨b,o+j,none⟩).isSome=true∧w.frozen? ⟨b,o+j,none⟩=false:=fun j hj=>y0E hB (by omega)
    refine(yZE w b o l.length cap i bv ov capv (vs0.drop (i*2)) vsV hlt hroom (by omega) hbvb hund (by rw[hi0]; simp[hsz]) (fun w=>by rw[zZ hi0,hsz]) hcl hvl hcsd (fun j hj=>(hin j hj).1) (fun j hj=>(hin j hj).2) (yDs hcsv) (fun v hv=>h1c v (List.mem_of_mem_drop hv)) h1v Tv T cv.size c.size (yX4 hBv) (yX4 hB) (by omega) (y06 hBv _) (y06 hBv _)).mono fun e w2 ⟨he,hw2⟩=> ?_
    subst he;have e1:w.drew.setCells b (o+(i+1)*2) (vs0.drop (i*2))=World.setBlk w.drew b (zi c (o+(i+1)*2) (vs0.drop (i*2))) T:=ym3 _ _ w.drew c hB (by omega);have hb1:hp (World.setBlk w.drew b (zi c (o+(i+1)*2) (vs0.drop (i*2))) T) b=some (.cells (zi c (o+(i+1)*2) (vs0.drop (i*2))) T (0,0)):=zbo (w:=w.drew) hblt;rw[e1,ym3 vsV _ _ _ hb1 (by rw[za3]; omega)]at hw2;subst hw2;have hsz1:b<(World.setBlk w.drew b (zi c (o+(i+1)*2) (vs0.drop (i*2))) T).heap.size:=by simp[World.setBlk]<;>exact hblt
    have hBn:hp (World.setBlk (World.setBlk w.drew b (zi c (o+(i+1)*2) (vs0.drop (i*2))) T) b (zi (zi c (o+(i+1)*2) (vs0.drop (i*2))) (o+i*2) vsV) T) b=some (.cells (zi (zi c (o+(i+1)*2) (vs0.drop (i*2))) (o+i*2) vsV) T (0,0)):=zbo hsz1;have oth: ∀b',b'≠b→hp (World.setBlk (World.setBlk w.drew b (zi c (o+(i+1)*2) (vs0.drop (i*2))) T) b (zi (zi c (o+(i+1)*2) (vs0.drop (i*2))) (o+i*2) vsV) T) b'=hp w b':=fun b' h=>(zbp h).trans (zbp (w:=w.drew) h)
    refine yBP (B:=b) rfl (by simp[World.setBlk]<;>exact Nat.le_refl _) (.inr (by rw[hfl]; exact hbf')) hbZ (fun b' _ hb'=>oth b' (fun e=>hb' (by rw[hfl,e]; exact hbf'))) (yE0 (i:=i)) hgn hgb hgm2 ?_;refine yE1 (h:=hp w) (vs0:=vs0) (i:=i) e0' eV' hi (hkZ oth) (fun x hx=>oth x (hgb x hx)) hBn (by rw[za3,za3]; exact hcap) hroom hbnd ?_;refine yLz hBn hl0 hvl hi (fun j hj=> ?_) (fun j hj=> ?_) (fun j hj=> ?_)
    ·rw[zah _ _ _ _ (by rw[za3]; omega),zah _ _ _ _ (by omega),if_neg (by omega),if_neg (by omega),zab hcs0 j (by omega)]
     unfold zL; rw[hB]
    ·rw[zah _ _ _ _ (by rw[za3]; omega),if_pos (by omega)]
     exact yM7 (by omega)
    ·rw[zah _ _ _ _ (by rw[za3]; omega),zah _ _ _ _ (by omega),if_neg (by omega),if_pos (by omega),List.getElem?_drop]
     exact yM7 (by omega)
   ·refine(y0c w b o l.length cap i bv ov capv (vs0.take (i*2)) (vs0.drop (i*2)) vsV hlt hlc (by omega) hbnd hund (by kernel_rfl) i0 hi0 (zA tW) hz0 hsz hbz hzc hpl hcl hvl hblt hvlt (fun j v hj=>by
     rw[List.getElem?_take]at hj;split at hj
     ·exact yDs hcs0 _ v hj
     ·cases hj) hcsd (yDs hcsv) (fun v hv=>h1c v (List.mem_of_mem_drop hv)) h1v).mono fun e w2 ⟨he,hw2⟩=> ?_
    subst he;generalize hG:grownCap w (l.length+1) cap 123=G at hw2;have hGn:l.length+1≤G:=by rw[← hG]; exact grownCap_ge w _ _ _
    generalize hROW:(vs0.take (i*2)).toArray++Builtin.zeroCells (zA tW).cells (l.length+1-i)++Builtin.zeroCells (zA tW).cells (G-(l.length+1))=ROW at hw2
    have hRs:ROW.size=G*2:=by
     rw[← hROW,Array.size_append,Array.size_append,size_zeroCells,size_zeroCells,hzc,List.size_toArray,hpl];omega
    have hRg: ∀j,j<i*2→ROW[j]? =vs0[j]? :=fun j hj=>by
     rw[← hROW,Array.append_assoc,Array.getElem?_append_left (by simp; omega)];simp[List.getElem?_take,hj]
    have hA0:hp (w.alloc (.cells ROW 123)).drew w.heap.size=some (.cells ROW 123 (0,0)):=zcr (w:=w);have hs0:(w.alloc (.cells ROW 123)).drew.heap.size=w.heap.size+1:=zc9 (w:=w);have ho0: ∀b',b'<w.heap.size→hp (w.alloc (.cells ROW 123)).drew b'=hp w b':=fun b' h=>zar (w:=w) h
    have hi0':zby (w.alloc (.cells ROW 123)).drew=zby w:=rfl;generalize (w.alloc (.cells ROW 123)).drew=A0 at hw2 hA0 hs0 ho0 hi0';rw[ym3 vsV _ _ _ hA0 (by omega)]at hw2;have hA1:hp (World.setBlk A0 w.heap.size (zi ROW (i*2) vsV) 123).drew w.heap.size=some (.cells (zi ROW (i*2) vsV) 123 (0,0)):=zbo (w:=A0) (by omega)
    have hs1:(World.setBlk A0 w.heap.size (zi ROW (i*2) vsV) 123).drew.heap.size=w.heap.size+1:=by
     show(World.setBlk A0 w.heap.size (zi ROW (i*2) vsV) 123).heap.size=_;simp[World.setBlk]; exact hs0
    have ho1: ∀b',b'<w.heap.size→hp (World.setBlk A0 w.heap.size (zi ROW (i*2) vsV) 123).drew b'=hp w b':=fun b' h=>(zbp (w:=A0) (by omega)).trans (ho0 b' h)
    have hi1':zby (World.setBlk A0 w.heap.size (zi ROW (i*2) vsV) 123).drew=zby w:=hi0';generalize (World.setBlk A0 w.heap.size (zi ROW (i*2) vsV) 123).drew=A1 at hw2 hA1 hs1 ho1 hi1';rw[ym3 _ _ _ _ hA1 (by rw[za3]; omega)]at hw2;subst hw2;have hBn:hp (World.setBlk A1 w.heap.size (zi (zi ROW (i*2) vsV) ((i+1)*2) (vs0.drop (i*2))) 123) w.heap.size=some (.cells (zi (zi ROW (i*2) vsV) ((i+1)*2) (vs0.drop (i*2))) 123 (0,0)):=zbo (by omega);have oth: ∀b',b'<w.heap.size→hp (World.setBlk A1 w.heap.size (zi (zi ROW (i*2) vsV) ((i+1)*2) (vs0.drop (i*2))) 123) b'=hp w b':=fun b' h=>(zbp (by omega)).trans (ho1 b' h)
    have hsz2:(World.setBlk A1 w.heap.size (zi (zi ROW (i*2) vsV) ((i+1)*2) (vs0.drop (i*2))) 123).heap.size=w.heap.size+1:=by simp[World.setBlk]<;>exact hs1
    refine yBP (B:=w.heap.size) hi1' (by omega) (.inl ⟨Nat.le_refl _,by omega⟩) (fun hz=>by have:=hlow _ (.inl hz); omega) (fun b' hb' _=>oth b' hb') (yE0 (i:=i)) hgn hgs hgm2 ?_;refine yE1 (h:=hp w) (vs0:=vs0) (i:=i) e0' eV' hi (fun b' hb'=>oth b' (hlow b' (.inl hb'))) (fun x hx=>oth x (hgl x hx)) hBn (by rw[za3,za3]; omega) hGn hbnd ?_;refine yLz hBn hl0 hvl hi (fun j hj=> ?_) (fun j hj=> ?_) (fun j hj=> ?_)
    ·rw[zah _ _ _ _ (by rw[za3]; omega),zah _ _ _ _ (by omega),if_neg (by omega),if_neg (by omega),Nat.zero_add,hRg j hj]
    ·rw[zah _ _ _ _ (by rw[za3]; omega),if_neg (by omega),zah _ _ _ _ (by omega),if_pos (by omega)]
     exact yM7 (by omega)
    ·rw[zah _ _ _ _ (by rw[za3]; omega),if_pos (by omega),List.getElem?_drop]
     exact yM7 (by omega)
theorem y09:ConOk prog 137 yI4 where
 fn:=⟨_,func137,by kernel_rfl,by kernel_rfl⟩
 run:=fun w Z R xs args fs r ha hF hz hnd hfr=>by
  obtain⟨l,i,v,_⟩:=xs;rcases args with _ | ⟨a0,_ | ⟨a1,_ | ⟨a2,_ | ⟨a3,t⟩⟩⟩⟩<;>rcases fs with _ | ⟨f0,_ | ⟨f1,_ | ⟨f2,_ | ⟨f3,u⟩⟩⟩⟩<;>try (simp[ArgsOk,yI4]at ha; done)
  obtain⟨⟨cs0,rfl,o0⟩,⟨cs1,rfl,hi1⟩,rfl,⟨cs2,rfl,o2⟩,_⟩:=ha;obtain⟨rfl,hif⟩:=hi1;have hF':(bif yaW l i v then some (((ygX l i v,()),()):zaY ygR×zak ygQ)else none)=some r:=hF;cases hq:yaW l i v with
  | false=>rw[hq]at hF'; cases hF'
  | true =>
   rw[hq]at hF';obtain rfl:=Option.some.inj hF';simp only[yaW,Bool.and_eq_true]at hq;obtain⟨i0,i1,hv1,hbnd⟩:=hq;have i0:=zj7.1 i0;have i1:=zj7.1 i1;have hv1:=beq_iff_eq.1 hv1;have hbnd:=of_decide_eq_true hbnd;obtain⟨k,hk⟩: ∃k:Nat,i=(k:Int):=⟨Int.toNat i,(Int.toNat_of_nonneg i0).symm⟩;subst hk
   have hone: ∃x:dW,v= [x]:=by
    have hv1:List.length (α:=dW) v=1:=hv1
    match v,hv1 with
    | [x],_=>exact⟨x,rfl⟩
   obtain⟨x,rfl⟩:=hone;have hl1:=Own.len o0;have hl2:=Own.len o2;obtain⟨a0,rfl⟩:=List.length_eq_one_iff.1 hl1;obtain⟨a2,rfl⟩:=List.length_eq_one_iff.1 hl2;have hfe:([f0,[],f2]:List (List Nat)).flatten=f0++f2:=by simp
   rw[hfe]at hnd hfr;exact y0K w Z R l k x a0 a2 f0 f2 o0 o2 (by have:=i1; omega) hbnd hz hnd hfr
def yap (a0:List dW) (a1:Int) (a2:List dW):Option (zaY ygR×zak ygQ):=bif yaW a0 a1 a2 then(fun n=>some ((n,()),())) (ygX a0 a1 a2)else none
theorem yF0 (a0:List dW) (a1:Int) (a2:List dW) (h:yaW a0 a1 a2=true):yap a0 a1 a2=(fun n=>some ((n,()),())) (ygX a0 a1 a2):=by unfold yap; rw[h]; rfl
def yq6:Con:=⟨ygQ,ygR,fun x=>yap x.1 x.2.1 x.2.2.1⟩
theorem yFY:ConOk prog 137 yq6:=y09
def ylo:Code:=(f62.body).getD .skip
def yrF:Env:=zkw TT [(59,yop),(60,yp8),(95,yjZ),(134,ymB),(135,ysO),(136,yp9),(137,yq6)] []
theorem yHD:FrOk prog ⟨yrF,98,fun _=>none⟩ ylo:=zkA mixed yc ⟨yB2,yDD,ytk,yzs,yFb,yDE,yFY,trivial⟩
def yyt:Nat→Option Seg:=fun _=>none
def yaE:Shape:=⟨[(6,false,[.ptr 64 0]),(8,false,[.ptr 4224 0]),(10,false,[.int .i64]),(11,false,[.at 800000000]),(13,false,[.int .i64])],[(64,[.int .i64,.int .i64,.int .i64,.nil,.int .i64,.int .i64,.int .i64,.int .i64,.int .i64,.nil,.int .i64,.bool,.bool]),(4224,[.int .i64,.int .i64,.int .i64,.at 800000001,.int .i64,.int .i64,.int .i64,.int .i64,.int .i64,.at 800000002,.int .i64,.bool,.bool])],[(800000000,tI,.fz),(800000001,tM,(.pr (.ow (.ow .fz)) (.pr (.ow (.pr .fz (.ow .fz))) (.pr .fz (.ow .fz))))),(800000002,tW,(.pr .fz (.ow .fz)))]⟩
def ydi:Shape:=⟨[(6,false,[.ptr 64 0]),(8,false,[.ptr 4224 0]),(10,false,[.int .i64]),(11,false,[.at 800000000]),(13,false,[.ci .i64 0])],[(64,[.int .i64,.int .i64,.int .i64,.nil,.int .i64,.int .i64,.int .i64,.int .i64,.int .i64,.nil,.int .i64,.bool,.bool]),(4224,[.int .i64,.int .i64,.int .i64,.at 800000001,.int .i64,.int .i64,.int .i64,.int .i64,.int .i64,.at 800000002,.int .i64,.bool,.bool])],[(800000000,tI,.fz),(800000001,tM,(.pr (.ow (.ow .fz)) (.pr (.ow (.pr .fz (.ow .fz))) (.pr .fz (.ow .fz))))),(800000002,tW,(.pr .fz (.ow .fz)))]⟩
def ydf:Shape:=⟨[(6,false,[.ptr 64 0]),(8,false,[.ptr 4224 0]),(10,false,[.int .i64]),(11,false,[.at 800000000]),(13,false,[.int .i64])],[(64,[.int .i64,.int .i64,.int .i64,.nil,.int .i64,.int .i64,.int .i64,.int .i64,.int .i64,.nil,.int .i64,.bool,.bool]),(4224,[.int .i64,.int .i64,.int .i64,.at 800000001,.int .i64,.int .i64,.int .i64,.int .i64,.int .i64,.at 800000002,.int .i64,.bool,.bool])],[(800000000,tI,.fz),(800000001,tM,(.pr (.ow (.ow .fz)) (.pr (.ow (.pr .fz (.ow .fz))) (.pr .fz (.ow .fz))))),(800000002,tW,(.pr .fz (.ow .fz)))]⟩
def yfR:Shape:=⟨[],[],[]⟩
abbrev yjc (v0 v1:Int) (v2 v3:dA) (v4:List Int):(yaE).X:=((((),()),((),()),(v0,()),((),()),(v1,()),()),((v2.1,v2.2.1.1,v2.2.1.2,(),v2.2.2.2.1,v2.2.2.2.2.1,v2.2.2.2.2.2.1,v2.2.2.2.2.2.2.1,v2.2.2.2.2.2.2.2.1,(),v2.2.2.2.2.2.2.2.2.2.1,v2.2.2.2.2.2.2.2.2.2.2.1,v2.2.2.2.2.2.2.2.2.2.2.2,()),(v3.1,v3.2.1.1,v3.2.1.2,(),v3.2.2.2.1,v3.2.2.2.2.1,v3.2.2.2.2.2.1,v3.2.2.2.2.2.2.1,v3.2.2.2.2.2.2.2.1,(),v3.2.2.2.2.2.2.2.2.2.1,v3.2.2.2.2.2.2.2.2.2.2.1,v3.2.2.2.2.2.2.2.2.2.2.2,()),()),(v4,v3.2.2.1,v3.2.2.2.2.2.2.2.2.1,()))
abbrev yE4 (v0:Int) (v1 v2:dA) (v3:List Int):(ydi).X:=((((),()),((),()),(v0,()),((),()),((),()),()),((v1.1,v1.2.1.1,v1.2.1.2,(),v1.2.2.2.1,v1.2.2.2.2.1,v1.2.2.2.2.2.1,v1.2.2.2.2.2.2.1,v1.2.2.2.2.2.2.2.1,(),v1.2.2.2.2.2.2.2.2.2.1,v1.2.2.2.2.2.2.2.2.2.2.1,v1.2.2.2.2.2.2.2.2.2.2.2,()),(v2.1,v2.2.1.1,v2.2.1.2,(),v2.2.2.2.1,v2.2.2.2.2.1,v2.2.2.2.2.2.1,v2.2.2.2.2.2.2.1,v2.2.2.2.2.2.2.2.1,(),v2.2.2.2.2.2.2.2.2.2.1,v2.2.2.2.2.2.2.2.2.2.2.1,v2.2.2.2.2.2.2.2.2.2.2.2,()),()),(v3,v2.2.2.1,v2.2.2.2.2.2.2.2.2.1,()))
abbrev yjf (v0 v1:Int) (v2 v3:dA) (v4:List Int):(ydf).X:=((((),()),((),()),(v0,()),((),()),(v1,()),()),((v2.1,v2.2.1.1,v2.2.1.2,(),v2.2.2.2.1,v2.2.2.2.2.1,v2.2.2.2.2.2.1,v2.2.2.2.2.2.2.1,v2.2.2.2.2.2.2.2.1,(),v2.2.2.2.2.2.2.2.2.2.1,v2.2.2.2.2.2.2.2.2.2.2.1,v2.2.2.2.2.2.2.2.2.2.2.2,()),(v3.1,v3.2.1.1,v3.2.1.2,(),v3.2.2.2.1,v3.2.2.2.2.1,v3.2.2.2.2.2.1,v3.2.2.2.2.2.2.1,v3.2.2.2.2.2.2.2.1,(),v3.2.2.2.2.2.2.2.2.2.1,v3.2.2.2.2.2.2.2.2.2.2.1,v3.2.2.2.2.2.2.2.2.2.2.2,()),()),(v4,v3.2.2.1,v3.2.2.2.2.2.2.2.2.1,()))
def yjD (v0 v1 v2 v3 v4 v5 v6 v7 v8 v9 v10:Int) (v11 v12:Bool) (v13 v14 v15 v16 v17 v18 v19 v20 v21:Int) (v22 v23:Bool) (v24:List Int) (v25:List dM) (v26:List dW):Option ((yaE).X ⊕ ((ydf).X ⊕ (yfR).X)) :=bif(ltb v1 (v26.length:Int))then bif(inb v1 v26.length)then bif(ltb ((nth v26 v1 (0,[])).1) v0)then some (.inl ((((),()),((),()),(v0,()),((),()),((i64.wrap (v1+1)),()),()),((v2,v3,v4,(),v5,v6,v7,v8,v9,(),v10,v11,v12,()),(v13,v14,v15,(),v16,v17,v18,v19,v20,(),v21,v22,v23,()),()),(v24,v25,v26,()))) else some (.inr (.inl ((((),()),((),()),(v0,()),((),()),(v1,()),()),((v2,v3,v4,(),v5,v6,v7,v8,v9,(),v10,v11,v12,()),(v13,v14,v15,(),v16,v17,v18,v19,v20,(),v21,v22,v23,()),()),(v24,v25,v26,())))) else none else some (.inr (.inl ((((),()),((),()),(v0,()),((),()),(v1,()),()),((v2,v3,v4,(),v5,v6,v7,v8,v9,(),v10,v11,v12,()),(v13,v14,v15,(),v16,v17,v18,v19,v20,(),v21,v22,v23,()),()),(v24,v25,v26,()))))
def yaO (x:(yaE).X):=yjD x.1.2.2.1.1 x.1.2.2.2.2.1.1 x.2.1.1.1 x.2.1.1.2.1 x.2.1.1.2.2.1 x.2.1.1.2.2.2.2.1 x.2.1.1.2.2.2.2.2.1 x.2.1.1.2.2.2.2.2.2.1 x.2.1.1.2.2.2.2.2.2.2.1 x.2.1.1.2.2.2.2.2.2.2.2.1 x.2.1.1.2.2.2.2.2.2.2.2.2.2.1 x.2.1.1.2.2.2.2.2.2.2.2.2.2.2.1 x.2.1.1.2.2.2.2.2.2.2.2.2.2.2.2.1 x.2.1.2.1.1 x.2.1.2.1.2.1 x.2.1.2.1.2.2.1 x.2.1.2.1.2.2.2.2.1 x.2.1.2.1.2.2.2.2.2.1 x.2.1.2.1.2.2.2.2.2.2.1 x.2.1.2.1.2.2.2.2.2.2.2.1 x.2.1.2.1.2.2.2.2.2.2.2.2.1 x.2.1.2.1.2.2.2.2.2.2.2.2.2.2.1 x.2.1.2.1.2.2.2.2.2.2.2.2.2.2.2.1 x.2.1.2.1.2.2.2.2.2.2.2.2.2.2.2.2.1 x.2.2.1 x.2.2.2.1 x.2.2.2.2.1
def yrb (x:(ydi).X):(yaE).X:=((((),()),((),()),(x.1.2.2.1.1,()),((),()),(0,()),()),((x.2.1.1.1,x.2.1.1.2.1,x.2.1.1.2.2.1,(),x.2.1.1.2.2.2.2.1,x.2.1.1.2.2.2.2.2.1,x.2.1.1.2.2.2.2.2.2.1,x.2.1.1.2.2.2.2.2.2.2.1,x.2.1.1.2.2.2.2.2.2.2.2.1,(),x.2.1.1.2.2.2.2.2.2.2.2.2.2.1,x.2.1.1.2.2.2.2.2.2.2.2.2.2.2.1,x.2.1.1.2.2.2.2.2.2.2.2.2.2.2.2.1,()),(x.2.1.2.1.1,x.2.1.2.1.2.1,x.2.1.2.1.2.2.1,(),x.2.1.2.1.2.2.2.2.1,x.2.1.2.1.2.2.2.2.2.1,x.2.1.2.1.2.2.2.2.2.2.1,x.2.1.2.1.2.2.2.2.2.2.2.1,x.2.1.2.1.2.2.2.2.2.2.2.2.1,(),x.2.1.2.1.2.2.2.2.2.2.2.2.2.2.1,x.2.1.2.1.2.2.2.2.2.2.2.2.2.2.2.1,x.2.1.2.1.2.2.2.2.2.2.2.2.2.2.2.2.1,()),()),(x.2.2.1,x.2.2.2.1,x.2.2.2.2.1,()))
def ysF:Code:=(zd7 ylo 64 16376).getD .skip
theorem yFy:zd7 ylo 64 4094=some (.block 0 (.loop ysF)):=by kernel_rfl
theorem yF3 (x:(yaE).X):zhu ⟨yrF,98,yyt⟩ 0 ysF 16376 yaE ydf yfR x=yaO x:=by kernel_rfl
def yrg (x:(ydi).X):Nat:=18446744073709551616
def yfO (x:(ydi).X):Option ((ydf).X ⊕ (yfR).X):=zF yaO (yrg x) (yrb x)
def yrm:Seg:=⟨ydi,ydf,yfR,yfO⟩
def yJm:Nat→Option Seg:=fun q=>bif Nat.beq q 4094 then some yrm else yyt q
theorem yHE:FrOk prog ⟨yrF,98,yJm⟩ ylo:=(yHD).loop (sg:=yrm) yaE yrb (by decide) yFy yaO yrg (by decide) (fun _=>rfl) (fun x r _ h=>h) yF3
abbrev ylA:List Par:= [.rd tA,.rd tI,.rd tI]
abbrev ysk:List OT:= [⟨false,tA,(.pr .fz (.pr (.pr .fz .fz) (.pr (.ow (.pr (.ow (.ow .fz)) (.pr (.ow (.pr .fz (.ow .fz))) (.pr .fz (.ow .fz))))) (.pr .fz (.pr .fz (.pr .fz (.pr .fz (.pr .fz (.pr (.ow (.pr .fz (.ow .fz))) (.pr .fz (.pr .fz .fz)))))))))))⟩,⟨false,tI,.fz⟩]
def yoM (a0:dA) (a1 a2:Int):Option (zaY ysk×zak ylA) :=let r1:=ybs a0;let r2:=yeb a0 a1;bif(r2==0)then let r3:=yae a2;bif(!r3)then some ((r1,3,()),()) else bif(r2 !=0)then some ((r1,r2,()),()) else let r4:=ybT a0.2.1 a1;let r5:=ycL a0 r4;bif(!r5.2)then some ((r1,5,()),()) else let r6:=ycK a0.2.1 a1;bif(inb r6 r5.1.length)then zkt (yfO ((((),()),((),()),(r4,()),((),()),((),()),()),((0,0,0,(),0,0,0,0,0,(),0,false,false,()),(r1.1,r1.2.1.1,r1.2.1.2,(),r1.2.2.2.1,r1.2.2.2.2.1,r1.2.2.2.2.2.1,r1.2.2.2.2.2.2.1,r1.2.2.2.2.2.2.2.1,(),r1.2.2.2.2.2.2.2.2.2.1,r1.2.2.2.2.2.2.2.2.2.2.1,r1.2.2.2.2.2.2.2.2.2.2.2,()),()),((r5.1.set (r6).toNat a2),r1.2.2.1,r1.2.2.2.2.2.2.2.2.1,()))) (fun y6 =>bif(ltb y6.1.2.2.2.2.1.1 (y6.2.2.2.2.1.length:Int))then bif(inb y6.1.2.2.2.2.1.1 y6.2.2.2.2.1.length)then bif((nth y6.2.2.2.2.1 y6.1.2.2.2.2.1.1 (0,[])).1==y6.1.2.2.1.1)then bif(inb y6.1.2.2.2.2.1.1 y6.2.2.2.2.1.length)then let r8:=(y6.2.2.2.2.1.set (y6.1.2.2.2.2.1.1).toNat ((nth y6.2.2.2.2.1 y6.1.2.2.2.2.1.1 (0,[])).1,y6.2.2.1));some (((y6.2.1.2.1.1,(y6.2.1.2.1.2.1,y6.2.1.2.1.2.2.1),y6.2.2.2.1,y6.2.1.2.1.2.2.2.2.1,y6.2.1.2.1.2.2.2.2.2.1,y6.2.1.2.1.2.2.2.2.2.2.1,y6.2.1.2.1.2.2.2.2.2.2.2.1,y6.2.1.2.1.2.2.2.2.2.2.2.2.1,r8,y6.2.1.2.1.2.2.2.2.2.2.2.2.2.2.1,y6.2.1.2.1.2.2.2.2.2.2.2.2.2.2.2.1,y6.2.1.2.1.2.2.2.2.2.2.2.2.2.2.2.2.1),0,()),()) else none else bnd (yap y6.2.2.2.2.1 y6.1.2.2.2.2.1.1 ([(y6.1.2.2.1.1,y6.2.2.1)]:List dW)) fun r9 =>some (((y6.2.1.2.1.1,(y6.2.1.2.1.2.1,y6.2.1.2.1.2.2.1),y6.2.2.2.1,y6.2.1.2.1.2.2.2.2.1,y6.2.1.2.1.2.2.2.2.2.1,y6.2.1.2.1.2.2.2.2.2.2.1,y6.2.1.2.1.2.2.2.2.2.2.2.1,y6.2.1.2.1.2.2.2.2.2.2.2.2.1,r9.1.1,y6.2.1.2.1.2.2.2.2.2.2.2.2.2.2.1,y6.2.1.2.1.2.2.2.2.2.2.2.2.2.2.2.1,y6.2.1.2.1.2.2.2.2.2.2.2.2.2.2.2.2.1),0,()),()) else none else bnd (yap y6.2.2.2.2.1 y6.1.2.2.2.2.1.1 ([(y6.1.2.2.1.1,y6.2.2.1)]:List dW)) fun r10 =>some (((y6.2.1.2.1.1,(y6.2.1.2.1.2.1,y6.2.1.2.1.2.2.1),y6.2.2.2.1,y6.2.1.2.1.2.2.2.2.1,y6.2.1.2.1.2.2.2.2.2.1,y6.2.1.2.1.2.2.2.2.2.2.1,y6.2.1.2.1.2.2.2.2.2.2.2.1,y6.2.1.2.1.2.2.2.2.2.2.2.2.1,r10.1.1,y6.2.1.2.1.2.2.2.2.2.2.2.2.2.2.1,y6.2.1.2.1.2.2.2.2.2.2.2.2.2.2.2.1,y6.2.1.2.1.2.2.2.2.2.2.2.2.2.2.2.2.1),0,()),())) (fun y6 =>none) else none else bif(r2 !=0)then some ((r1,r2,()),()) else let r11:=ybT a0.2.1 a1;let r12:=ycL a0 r11;bif(!r12.2)then some ((r1,5,()),()) else let r13:=ycK a0.2.1 a1;bif(inb r13 r12.1.length)then zkt (yfO ((((),()),((),()),(r11,()),((),()),((),()),()),((0,0,0,(),0,0,0,0,0,(),0,false,false,()),(r1.1,r1.2.1.1,r1.2.1.2,(),r1.2.2.2.1,r1.2.2.2.2.1,r1.2.2.2.2.2.1,r1.2.2.2.2.2.2.1,r1.2.2.2.2.2.2.2.1,(),r1.2.2.2.2.2.2.2.2.2.1,r1.2.2.2.2.2.2.2.2.2.2.1,r1.2.2.2.2.2.2.2.2.2.2.2,()),()),((r12.1.set (r13).toNat a2),r1.2.2.1,r1.2.2.2.2.2.2.2.2.1,()))) (fun y13 =>bif(ltb y13.1.2.2.2.2.1.1 (y13.2.2.2.2.1.length:Int))then bif(inb y13.1.2.2.2.2.1.1 y13.2.2.2.2.1.length)then bif((nth y13.2.2.2.2.1 y13.1.2.2.2.2.1.1 (0,[])).1==y13.1.2.2.1.1)then bif(inb y13.1.2.2.2.2.1.1 y13.2.2.2.2.1.length)then let r15:=(y13.2.2.2.2.1.set (y13.1.2.2.2.2.1.1).toNat ((nth y13.2.2.2.2.1 y13.1.2.2.2.2.1.1 (0,[])).1,y13.2.2.1));some (((y13.2.1.2.1.1,(y13.2.1.2.1.2.1,y13.2.1.2.1.2.2.1),y13.2.2.2.1,y13.2.1.2.1.2.2.2.2.1,y13.2.1.2.1.2.2.2.2.2.1,y13.2.1.2.1.2.2.2.2.2.2.1,y13.2.1.2.1.2.2.2.2.2.2.2.1,y13.2.1.2.1.2.2.2.2.2.2.2.2.1,r15,y13.2.1.2.1.2.2.2.2.2.2.2.2.2.2.1,y13.2.1.2.1.2.2.2.2.2.2.2.2.2.2.2.1,y13.2.1.2.1.2.2.2.2.2.2.2.2.2.2.2.2.1),0,()),()) else none else bnd (yap y13.2.2.2.2.1 y13.1.2.2.2.2.1.1 ([(y13.1.2.2.1.1,y13.2.2.1)]:List dW)) fun r16 =>some (((y13.2.1.2.1.1,(y13.2.1.2.1.2.1,y13.2.1.2.1.2.2.1),y13.2.2.2.1,y13.2.1.2.1.2.2.2.2.1,y13.2.1.2.1.2.2.2.2.2.1,y13.2.1.2.1.2.2.2.2.2.2.1,y13.2.1.2.1.2.2.2.2.2.2.2.1,y13.2.1.2.1.2.2.2.2.2.2.2.2.1,r16.1.1,y13.2.1.2.1.2.2.2.2.2.2.2.2.2.2.1,y13.2.1.2.1.2.2.2.2.2.2.2.2.2.2.2.1,y13.2.1.2.1.2.2.2.2.2.2.2.2.2.2.2.2.1),0,()),()) else none else bnd (yap y13.2.2.2.2.1 y13.1.2.2.2.2.1.1 ([(y13.1.2.2.1.1,y13.2.2.1)]:List dW)) fun r17 =>some (((y13.2.1.2.1.1,(y13.2.1.2.1.2.1,y13.2.1.2.1.2.2.1),y13.2.2.2.1,y13.2.1.2.1.2.2.2.2.1,y13.2.1.2.1.2.2.2.2.2.1,y13.2.1.2.1.2.2.2.2.2.2.1,y13.2.1.2.1.2.2.2.2.2.2.2.1,y13.2.1.2.1.2.2.2.2.2.2.2.2.1,r17.1.1,y13.2.1.2.1.2.2.2.2.2.2.2.2.2.2.1,y13.2.1.2.1.2.2.2.2.2.2.2.2.2.2.2.1,y13.2.1.2.1.2.2.2.2.2.2.2.2.2.2.2.2.1),0,()),())) (fun y13 =>none) else none
theorem yKY:ConOk prog 62 ⟨ylA,ysk,fun x=>yoM x.1 x.2.1 x.2.2.1⟩:=zkI (yHE) func62 ntmps62.symm fun x=>by kernel_rfl
def yh6 (a0:dA) (a1 a2:Int):dA×Int:=ySv a0 a1 a2
theorem yNJ (a0:dA) (a1 a2:Int) (hk:zjx ylA (a0,a1,a2,())):yoM a0 a1 a2=(fun n=>some ((n.1,n.2,()),())) (yh6 a0 a1 a2):=by
 unfold yoM yh6 ySv;simp only[ybs,yH2,yXH,show yT a2=isW a2 by unfold yT; rw[ybR]; rfl];cases hc:(ybk a0 a1==0)
 ·have:(ybk a0 a1 !=0)=true:=bne_iff_ne.2 (beq_eq_false_iff_ne.1 hc)
  rw[this]; rfl
 ·have hc:=beq_iff_eq.1 hc
  obtain⟨ha,hb,_⟩:=yU5 hc;have hs:=ykT hb;obtain⟨_,_,hi⟩:=yjE hb;have hdl:=yq8 (yU1 ha) (yfU ha);rw[hc];cases isW a2
  ·rfl
  ·unfold ykP
   simp only[ybT,ycK,yPU ha hs,y0k ha];cases hn:(yz a0 (yD a0.2.1 a1)).2
   ·rfl
   ·have hl:=ykS ha hs hn
    have hx:ybr a0.2.1 a1=a1.tmod (a0.2.1.1-1):=by unfold ybr; rw[hb]; rfl
    rw[zj6.2 (show 0≤ybr a0.2.1 a1∧ybr a0.2.1 a1<(yz a0 (yD a0.2.1 a1)).1.length by omega)];generalize (yz a0 (yD a0.2.1 a1)).1.set (ybr a0.2.1 a1).toNat a2=D;generalize yD a0.2.1 a1=s
    have hF:yfO (yE4 s yem a0 D)=some (.inl (yjf s (yoE a0.2.2.2.2.2.2.2.2.1 s) yem a0 D)):=by
     refine(yDB (step:=yaO) a0.2.2.2.2.2.2.2.2.1 (0,[]) (fun i=>yjc s i yem a0 D) (fun e:dW=> !ltb e.1 s) (fun i=> .inl (yjf s i yem a0 D)) (.inl (yjf s (a0.2.2.2.2.2.2.2.2.1.length:Int) yem a0 D)) (fun i hi=>by
      simp only[yaO,yjc,yjD,zky (show(i:Int)<a0.2.2.2.2.2.2.2.2.1.length by omega),cond_true,wq ((i:Int)+1) (by omega) (by omega),Int.natCast_add,Int.natCast_one,Int.toNat_natCast,zkR hi,zkS]
      cases ltb (a0.2.2.2.2.2.2.2.2.1.getD i (0,[])).1 s<;>rfl) (by simp only[yaO,yjc,yjD,zk3 (Int.le_refl _),cond_false]) 18446744073709551616 (by omega)).trans ?_
     unfold yoE;cases leb 0 (yW (fun x:dW=> !ltb x.1 s) a0.2.2.2.2.2.2.2.2.1)<;>rfl
    have hp:=yZK a0.2.2.2.2.2.2.2.2.1 s
    have hI: ∀P,0≤P∧P≤(a0.2.2.2.2.2.2.2.2.1.length:Int)→yap a0.2.2.2.2.2.2.2.2.1 P [(s,D)]=some ((a0.2.2.2.2.2.2.2.2.1.take P.toNat++ [(s,D)]++a0.2.2.2.2.2.2.2.2.1.drop P.toNat,()),()):=fun P hP=>yF0 _ _ _ (by
     unfold yaW;rw[zk2 hP.1,zk2 hP.2]
     exact decide_eq_true (show(a0.2.2.2.2.2.2.2.2.1.length+1)*32≤2^47 by omega))
    simp only[Bool.not_true,bne_self_eq_false,cond_true,cond_false];refine(congrArg (fun z=>zkt z _ _) hF).trans ?_;simp only[zkN,zkX];unfold yZi;generalize yoE a0.2.2.2.2.2.2.2.2.1 s=P at hp ⊢;have hI:=hI P hp;cases h1:ltb P (a0.2.2.2.2.2.2.2.2.1.length:Int)
    ·simp only[cond_false,hI]; rfl
    ·have hin:=zj6.2 (⟨hp.1,zka.1 h1⟩:0≤P∧P<(a0.2.2.2.2.2.2.2.2.1.length:Int))
     simp only[hin,cond_true];cases((nth a0.2.2.2.2.2.2.2.2.1 P (0,[])).1==s)
     ·simp only[cond_false,hI]; rfl
     ·rfl
def yyS:Con:=⟨ylA,ysk,fun x=>(fun n=>some ((n.1,n.2,()),())) (yh6 x.1 x.2.1 x.2.2.1)⟩
theorem yOA:ConOk prog 62 yyS:=(yKY).mono (fun x r hk h=>(yNJ x.1 x.2.1 x.2.2.1 hk).trans h)
def ySH:Code:=(f10.body).getD .skip
def yTb:Env:=zkw TT [(14,yHm),(39,yyO),(43,yA0),(44,yA9),(49,yyW),(50,yyN),(52,yBa),(54,yA1),(55,yd7),(57,yLA),(58,ysM),(62,yyS)] []
theorem yJ7:FrOk prog ⟨yTb,119,fun _=>none⟩ ySH:=zkA mixed yc ⟨yYw,yOw,yRS,yR2,yOE,yOv,yR3,yRT,yg9,yZg,yGV,yOA,trivial⟩
abbrev ynB:List Par:= [.kp tYs .fz]
abbrev yu4:List OT:= [⟨false,tB,.fz⟩]
def yqE (a0:List Int):Option (zaY yu4×zak ynB) :=let r1:=yzQ a0;bif r1 then some ((true,()),()) else bnd (ygM a0) fun r2 =>bnd (ypg a0 2) fun r3 =>bif(r2.1.1.2.1.1 !=0)then let r4:=yea r2.1.1 (r3.1.1.tmod r2.1.1.2.1.1);bif(!(!r4))then bif(inb (r3.1.1.tmod r2.1.1.2.1.1) r2.1.1.2.2.1.length)then bif(((nth r2.1.1.2.2.1 (r3.1.1.tmod r2.1.1.2.1.1) ([],[],false,[])).2).2).1 then let r5:=yea r2.1.1 (r3.1.1.tmod r2.1.1.2.1.1);let r6:=yaL r2.1.1 (r3.1.1.tmod r2.1.1.2.1.1);some (((r5==r6),()),()) else let r7:=yeU r2.1.1 (r3.1.1.tmod r2.1.1.2.1.1);bif(r2.1.1.2.1.1 !=0)then let r8:=yeU r7 ((i64.wrap ((r3.1.1.tmod r2.1.1.2.1.1)+1)).tmod r2.1.1.2.1.1);let r9:=yh6 r8 0 1;bif(zks (i64.wrap (r2.1.1.2.1.1-1)) 8)then let r10:=yeH r8 0 (List.replicate ((i64.wrap (r2.1.1.2.1.1-1))).toNat (0:Int));let r11:=yeT r7;let r12:=yeT r2.1.1;let r13:=ydo r11 r12;bif r13 then let r14:=yfZ r7;let r15:=yfZ r2.1.1;let r16:=ydo r14 r15;bif r16 then bif(!r7.2.2.2.2.2.2.2.2.2.2.2)then bif(r7.2.2.2.1==(r3.1.1.tmod r2.1.1.2.1.1))then bif r8.2.2.2.2.2.2.2.2.2.2.2 then bif(r10.2==5)then bif(!(r9.2==5))then bif(r9.2==0)then bif(ltb 0 (r8.2.2.2.2.2.2.2.2.1.length:Int))then let r17:=yG r7;bif r17 then let r18:=yG r8;some ((r18,()),()) else some ((false,()),()) else some ((false,()),()) else some ((false,()),()) else let r19:=yG r7;bif r19 then let r20:=yG r8;some ((r20,()),()) else some ((false,()),()) else some ((false,()),()) else some ((false,()),()) else some ((false,()),()) else some ((false,()),()) else some ((false,()),()) else some ((false,()),()) else none else none else none else let r21:=yea r2.1.1 (r3.1.1.tmod r2.1.1.2.1.1);let r22:=yaL r2.1.1 (r3.1.1.tmod r2.1.1.2.1.1);some (((r21==r22),()),()) else none
theorem yOf:ConOk prog 10 ⟨ynB,yu4,fun x=>yqE x.1⟩:=zkI (yJ7) func10 ntmps10.symm fun x=>by kernel_rfl
def yvq (a0:List Int):Bool:=true
theorem yY0 {K m:Int} {V:Int→Int→Int} {x:dA} (h:Ix K V x) (hm:inb m x.2.2.1.length=true):yP (ycl x m)=true:=by
 obtain⟨⟨g1,g2⟩,g3⟩:=h.xk;refine yEA.2 ⟨h.xc,⟨yri (fun i hi=>⟨(g1 i hi).1,(g1 i hi).2.1,fun _=> .inr rfl⟩) (fun hi=> ?_),by show((x.2.2.1.set _ _).length:Int)=_; rw[List.length_set]; exact g2⟩,g3⟩;have:=g1 m.toNat hi;rw[Int.toNat_of_nonneg (zj6.1 hm).1]at this;exact⟨yTt this.1,this.2.1,fun _=> .inr rfl⟩
theorem yYl {y:dA} {d:List Int} (h:yP y=true) (hu:yb y=false) (hb:y.2.2.2.2.2.2.2.2.2.2.2=true) (hl:(d.length:Int)=y.2.1.1-1) (hd:d.all isW=true):yE y 0 d=5:=by
 have hg:=yk.1 (yfU h);unfold yE;simp only[yci,yhb,ybR,h,hd,show y.2.2.2.2.2.2.2.2.2.2.1=false from hu,hb,wq (y.2.1.1-1) (by omega) (by omega),wq (y.2.1.2-1) (by omega) (by omega),hl,bne_self_eq_false,zk2 (show(0:Int)≤0 by omega),zk2 (show(0:Int)≤y.2.1.2-1 by omega)];rfl
theorem yQ1 (a0:List Int) (hk:zjx ynB (a0,())):yqE a0=(fun n=>some ((n,()),())) (yvq a0):=by
 have hb:a0.length≤140737488355328:=by have:a0.length*1≤2^47:=hk.1.1; omega
 have hx:=yY1 hk.1;obtain⟨a,V,e,hw,hi⟩:=yY5 a0 hb;have hg:=yk.1 hi.xc.1;have hlen:=hi.xk.1.2;obtain⟨e2,r0,_⟩:=y1u (i:=2) hb hx (by omega) (by omega);have m0:0≤(atV a0 2).tmod a.2.1.1:=Int.tmod_nonneg _ r0;have m1:(atV a0 2).tmod a.2.1.1<a.2.1.1:=Int.tmod_lt_of_pos _ (by omega);obtain⟨m,hme⟩: ∃m,m=(atV a0 2).tmod a.2.1.1:=⟨_,rfl⟩;rw[← hme]at m0 m1;have hmi:inb m a.2.2.1.length=true:=zj6.2 (by omega);have hcl:yea a m=yaL a m:=rfl;unfold yqE yvq;simp only[e,e2,zkH,← hme];cases yzQ a0
 ·rw[show(a.2.1.1 !=0)=true from bne_iff_ne.2 (by omega)]
  simp only[cond_false,cond_true,hcl];cases hcn:yaL a m
  ·rfl
  ·simp only[Bool.not_true,Bool.not_false,cond_true,hmi]
   rcases Bool.eq_false_or_eq_true (nth a.2.2.1 m yd).2.2.1 with hf | hf
   ·rw[y0D hf]; rfl
   ·rw[y0C hf]
    have hcl2:=hcn;unfold yaL at hcl2;simp only[Bool.and_eq_true,Bool.or_eq_true,beq_iff_eq]at hcl2;obtain⟨_,_,_,hlo,hca⟩:=hcl2;have hu:=yZB hi hw.2.2.1 hlo (by omega);have hxi:=yYI hi hlo hmi (by omega) hu;obtain⟨c1,c2,c3⟩:=yVc hi hlo (by omega)
    have hfa:yL4 a:=fun s s0 s1=>yYJ m0 fun i i0 i1 hi2=>by
     obtain⟨k1,k2,k3⟩:=yXR hi hca hlo i0 i1 hi2 s0;exact yZD k1 k2 k3
    have hfx:yL4 (yaK a m):=fun s s0 s1=>yYJ m0 fun i i0 i1 hi2=>by
     rw[c1]at i1;obtain⟨k1,k2,k3⟩:=yXR hi hca hlo i0 i1 hi2 s0;exact yZ7 hi hlo hmi (by omega) i0 i1 hi2 s0 ⟨k2,k3⟩
    have hfd:yvm a m=yaK a m:=by
     unfold yvm;rw[ywG hi,hmi,hf]; rfl
    have hct:=yYm hi hxi c1 c3 hfa hfx;have hdu:yvl (yaK a m)=yvl a:=by rw[yH0 hxi hfx,yH0 hi hfa,c1]
    generalize yaK a m=x at hu hxi c1 c2 c3 hfx hfd hct hdu;obtain⟨m2,hm2⟩: ∃m2,m2=(m+1).tmod a.2.1.1:=⟨_,rfl⟩
    have hm2r:0≤m2∧m2<a.2.1.1∧m2≠m:=by
     rw[hm2,Int.tmod_eq_emod_of_nonneg (by omega)];have h1:=Int.emod_nonneg (m+1) (show a.2.1.1≠0 by omega);have h2:=Int.emod_lt_of_pos (m+1) (show 0<a.2.1.1 by omega);have:m+1<a.2.1.1∨m+1=a.2.1.1:=by omega
     refine⟨h1,h2,fun h3=> ?_⟩;rcases this with h | h
     ·rw[Int.emod_eq_of_lt (by omega) h]at h3; omega
     ·rw[h,Int.emod_self]at h3; omega
    have hxl:=hxi.xk.1.2;rw[c1]at hxl;have hm2i:inb m2 x.2.2.1.length=true:=zj6.2 (by omega)
    have hxf:(nth x.2.2.1 m2 yd).2.2.1=false:=by
     cases h:(nth x.2.2.1 m2 yd).2.2.1
     ·rfl
     ·have:=y0A hxi hm2r.1 (by rw[c1]; exact hm2r.2.1) h
      omega
    have hfd2:yvm x m2=ycl x m2:=by
     unfold yvm yaK;rw[ywG hxi,hm2i,hxf,show(x.2.2.2.1== -1)=false from beq_eq_false_iff_ne.2 (by omega),show(x.2.2.2.1==m2)=false from beq_eq_false_iff_ne.2 (by omega)]; rfl
    have hby:=yY0 hxi hm2i
    have hz:(List.replicate (a.2.1.1-1).toNat (0:Int)).all isW=true:=by
     rw[List.all_eq_true];intro y hy;rw[List.eq_of_mem_replicate hy]; rfl
    have hcb:=yYl (d:=List.replicate (a.2.1.1-1).toNat (0:Int)) hby hu rfl (by rw[List.length_replicate]; show _=x.2.1.1-1; rw[c1]; omega) hz
    have hwr:(yF9 (ycl x m2) 0 (List.replicate (a.2.1.1-1).toNat (0:Int))).2=5:=by
     unfold yF9;rw[hcb]; rfl
    have hB:2≤yh x.2.1:=by
     rw[yvQ hxi.xc.1,c1];have:1*2≤a.2.1.2*(a.2.1.1-1):=Int.mul_le_mul (by omega) (by omega) (by omega) (by omega);omega
    have hok:ybQ x.2.1 0=true:=by
     unfold ybQ;rw[zk2 (show(0:Int)≤0 by omega),zk2 (show(0:Int)≤yh x.2.1-1 by omega)]; rfl
    have hsb:(ySv (ycl x m2) 0 1).2=bif leb 0 (yx x.2.2.2.2.2.2.2.2.1 (yD x.2.1 0))then 0 else 5:=by
     have hbc:ybk (ycl x m2) 0=0:=by
      unfold ybk;rw[hby,show(ycl x m2).2.2.2.2.2.2.2.2.2.2.1=false from hu];show(bif !true then(1:Int)else bif false then 6 else bif ybQ x.2.1 0 then 0 else 2)=0;rw[hok]; rfl
     unfold ySv;rw[hbc,show isW 1=true from rfl];show(ykP (ycl x m2) 0 1).1=_;unfold ykP yz;show(bif(bif leb 0 (yx x.2.2.2.2.2.2.2.2.1 (yD x.2.1 0))then((nth x.2.2.2.2.2.2.2.2.1 (yx x.2.2.2.2.2.2.2.2.1 (yD x.2.1 0)) (0,[])).2,true)else([],false)).2 then((0:Int),_)else(5,_)).1=_;cases leb 0 (yx x.2.2.2.2.2.2.2.2.1 (yD x.2.1 0))<;>rfl
    have hlt:leb 0 (yx x.2.2.2.2.2.2.2.2.1 (yD x.2.1 0))=true→ltb 0 (x.2.2.2.2.2.2.2.2.1.length:Int)=true:=fun h=>by
     have:=zj6.1 (yj4 (d:=((0:Int),([]:List Int))) h).1;exact zky (by omega)
    simp only[yeU,hfd,wq (m+1) (by omega) (by omega),← hm2,hfd2,yh6,yeH,wq (a.2.1.1-1) (by omega) (by omega),zkM.2 (show 0≤a.2.1.1-1∧(a.2.1.1-1)*((8:Nat):Int)≤140737488355328 by omega),hwr,hsb,yeT,hct,yfZ,hdu,yW7,cond_true,hxi.xb,c2,beq_self_eq_true,yG,ywG hxi,hby,Bool.not_false,Bool.not_true,cond_false];rw[show(ycl x m2).2.2.2.2.2.2.2.2.2.2.2=true from rfl,show(ycl x m2).2.2.2.2.2.2.2.2.1=x.2.2.2.2.2.2.2.2.1 from rfl];cases h:leb 0 (yx x.2.2.2.2.2.2.2.2.1 (yD x.2.1 0))
    ·rfl
    ·rw[hlt h]; rfl
 ·rfl
def yMf:Con:=⟨ynB,yu4,fun x=>(fun n=>some ((n,()),())) (yvq x.1)⟩
theorem yR1:ConOk prog 10 yMf:=(yOf).mono (fun x r hk h=>(yQ1 x.1 hk).trans h)
end
end Go.Tf
