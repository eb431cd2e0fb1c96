/- Functions of the program, and what they come to. -/
import Derived.Test.YtolmneojjjpnjaaGreatBlocksF3
import Derived.Deep.RegionLaw
import Derived.Laws.Externs
import Derived.Laws.IdiomCopy
import Derived.Laws.NewBlocks
import Derived.Lib.AppendZerosOnto
import Derived.Lib.Overlaps
import Derived.Lib.SliceRun
import Derived.Lib.Walk
import Derived.Shelf.RegionOpenPlain
import Derived.Shelf.Spec.SlicesInsert
import Derived.WalkKit
namespace Go.Tf
noncomputable section
open Go.Proofs Go.Proofs.Tryz IntKind
set_option synthInstance.maxHeartbeats 400000
set_option synthInstance.maxSize 10000
set_option linter.unusedVariables false
set_option linter.unusedSimpArgs false
set_option maxRecDepth 100000
def yQ5:Code:=(f203.body).getD .skip
def yRt:Env:=zkw TT [(174,ymV),(177,ytZ),(178,ymU)] []
theorem yJT:FrOk prog ⟨yRt,27,fun _=>none⟩ yQ5:=zkA mixed yc ⟨ywC,yGU,ywB,trivial⟩
abbrev yhG:List Par:= [.pt tA (.pr .fz (.pr (.pr .fz .fz) (.pr (.ow (.pr (.ow .fz) (.pr (.ow (.pr .fz .fz)) (.pr .fz (.ow .fz))))) (.pr .fz (.pr .fz (.pr .fz (.pr .fz (.pr .fz (.pr (.ow (.pr .fz .fz)) (.pr .fz (.pr .fz .fz)))))))))))]
abbrev ymF:List OT:= [⟨false,tI,.fz⟩]
def ypO (a0:dA):Option (zaY ymF×zak yhG) :=let r1:=ycB a0.2.1;let r2:=yd8 r1;bif(inb a0.2.2.2.1 a0.2.2.1.length)then let r3:=yaT (a0.1,a0.2.1,(a0.2.2.1.set (a0.2.2.2.1).toNat r2),a0.2.2.2.1,0,a0.2.2.2.2.2);bif r3.2.2.2.2.2.2.2.2.2.2.1 then some ((6,()),(r3,())) else some ((0,()),(r3,())) else none
theorem yM7:ConOk prog 203 ⟨yhG,ymF,fun x=>ypO x.1⟩:=zkI (yJT) func203 ntmps203.symm fun x=>by kernel_rfl
def ym0 (a0:dA):Int×dA:=(bif ya (yak (yb2 a0))then 6 else 0,yak (yb2 a0))
def yiI (a0:dA):Bool:=ye a0.2.1&&inb a0.2.2.2.1 a0.2.2.1.length
theorem yPU (a0:dA) (hk:zjx yhG (a0,())) (hq:yiI a0=true):ypO a0=(fun n=>some ((n.1,()),(n.2,()))) (ym0 a0):=by
 simp only[yiI,Bool.and_eq_true]at hq;have hg:=yj.1 hq.1;unfold ypO ym0;simp only[ycB,wq (6+a0.2.1.2) (by omega) (by omega),hq.2,yd8,yaT];show(bif ya (yak (yb2 a0))then some ((6,()),(yak (yb2 a0),()))else some ((0,()),(yak (yb2 a0),())))=_;cases ya (yak (yb2 a0))<;>rfl
def yiE (a0:dA):Option (zaY ymF×zak yhG):=bif yiI a0 then(fun n=>some ((n.1,()),(n.2,()))) (ym0 a0)else none
theorem yQF (a0:dA) (h:yiI a0=true):yiE a0=(fun n=>some ((n.1,()),(n.2,()))) (ym0 a0):=by unfold yiE; rw[h]; rfl
def yAp:Con:=⟨yhG,ymF,fun x=>yiE x.1⟩
theorem yQC:ConOk prog 203 yAp:=(yM7).mono (fun x r hk h=>zkY h (fun hq=>yPU x.1 hk hq))
def yUI:Code:=(f204.body).getD .skip
def yVb:Env:=zkw TT [(113,yfh),(206,yjI),(227,yq4)] []
theorem yMc:FrOk prog ⟨yVb,49,fun _=>none⟩ yUI:=zkA mixed yc ⟨yka,yqG,yFa,trivial⟩
abbrev yjs:List Par:= [.pt tA (.pr .fz (.pr (.pr .fz .fz) (.pr (.ow (.pr (.ow .fz) (.pr (.ow (.pr .fz .fz)) (.pr .fz (.ow .fz))))) (.pr .fz (.pr .fz (.pr .fz (.pr .fz (.pr .fz (.pr (.ow (.pr .fz .fz)) (.pr .fz (.pr .fz .fz)))))))))))]
abbrev you:List OT:= [⟨false,tI,.fz⟩]
def yrD (a0:dA):Option (zaY you×zak yjs) :=bnd (yj9 a0 a0.2.2.2.2.1) fun r1 =>bif(!r1.1.2.1)then some ((5,()),(a0,())) else let r2:=ybD a0.2.2.2.2.1;bif(inb a0.2.2.2.1 r1.1.1.length)then bnd (ye8 a0 a0.2.2.2.1 r2 ([(nth r1.1.1 a0.2.2.2.1 0)]:List Int)) fun r3 =>bif r3.2.1.2.2.2.2.2.2.2.2.2.2.1 then some ((6,()),(r3.2.1,())) else some ((0,()),((r3.2.1.1,r3.2.1.2.1,r3.2.1.2.2.1,r3.2.1.2.2.2.1,(i64.wrap (r3.2.1.2.2.2.2.1+1)),r3.2.1.2.2.2.2.2),())) else none
theorem yQh:ConOk prog 204 ⟨yjs,you,fun x=>yrD x.1⟩:=zkI (yMc) func204 ntmps204.symm fun x=>by kernel_rfl
def yoJ (a0:dA):Int×dA:=ysj a0
def ykb (a0:dA):Bool:=ye a0.2.1&&(inb a0.2.2.2.1 a0.2.2.1.length&&inb a0.2.2.2.1 a0.2.1.1.toNat)
theorem yS6 (a0:dA) (hk:zjx yjs (a0,())) (hq:ykb a0=true):yrD a0=(fun n=>some ((n.1,()),(n.2,()))) (yoJ a0):=by
 simp only[ykb,Bool.and_eq_true]at hq;unfold yrD yoJ ysj;rw[yFd a0 a0.2.2.2.2.1 hq.1];simp only[zkH,ygm,ygo];cases hw:(yR a0 a0.2.2.2.2.1).2
 ·rfl
 ·rw[yKT hw,hq.2.2,ylv a0 a0.2.2.2.1 (yX a0.2.2.2.2.1) [nth (yR a0 a0.2.2.2.2.1).1 a0.2.2.2.1 0] hq.2.1]
  simp only[zkH,ynN,Bool.not_true,cond_false,cond_true];show(bif ya (ybg a0)then some ((6,()),(ybg a0,()))else some ((0,()),(y19 (ybg a0),())))=_;cases ya (ybg a0)<;>rfl
def yj8 (a0:dA):Option (zaY you×zak yjs):=bif ykb a0 then(fun n=>some ((n.1,()),(n.2,()))) (yoJ a0)else none
theorem yUa (a0:dA) (h:ykb a0=true):yj8 a0=(fun n=>some ((n.1,()),(n.2,()))) (yoJ a0):=by unfold yj8; rw[h]; rfl
def yCG:Con:=⟨yjs,you,fun x=>yj8 x.1⟩
theorem yT5:ConOk prog 204 yCG:=(yQh).mono (fun x r hk h=>zkY h (fun hq=>yS6 x.1 hk hq))
def yXT:Code:=(f163.body).getD .skip
def yYo:Env:=zkw TT [(72,yeu),(83,yEJ),(108,yCF),(112,yAm),(113,yfh),(117,yGs),(118,yGu),(119,ymT),(120,yEI),(171,yq5),(179,yq6),(203,yAp),(204,yCG)] []
theorem yOQ:FrOk prog ⟨yYo,160,fun _=>none⟩ yXT:=zkA mixed yc ⟨yiF,yWE,yT4,yQz,yka,yY5,yY7,ywA,yWD,yFb,yFc,yQC,yT5,trivial⟩
abbrev yn:List Par:= [.pt tU .fz,.pt tA (.pr .fz (.pr (.pr .fz .fz) (.pr (.ow (.pr (.ow .fz) (.pr (.ow (.pr .fz .fz)) (.pr .fz (.ow .fz))))) (.pr .fz (.pr .fz (.pr .fz (.pr .fz (.pr .fz (.pr (.ow (.pr .fz .fz)) (.pr .fz (.pr .fz .fz)))))))))))]
abbrev yo:List OT:= []
def yiK (a0:dU) (a1:dA):Option (zaY yo×zak yn) :=bnd (yk a0 14) fun r1 =>let k1:Option (zaY yo×zak yn) :=bnd (ycc r1.2.1 3) fun r9 =>bif r9.1.1 then bif(a1.2.2.2.1==(-1))then bnd (yk r9.2.1 a1.2.1.1) fun r10 =>bnd (yj7 a1 r10.1.1) fun r11 =>some ((),(r10.2.1,r11.2.1,())) else some ((),(r9.2.1,a1,())) else some ((),(r9.2.1,a1,()));let k2:Option (zaY yo×zak yn) :=bif(inb a1.2.2.2.1 a1.2.2.1.length)then bif(((nth a1.2.2.1 a1.2.2.2.1 ([],[],false,[])).2).2).1 then bnd (yiE a1) fun r12 =>some ((),(r1.2.1,r12.2.1,())) else some ((),(r1.2.1,a1,())) else none;let k3:Option (zaY yo×zak yn) :=bif(leb 0 a1.2.2.2.1)then k2 else some ((),(r1.2.1,a1,()));let k4:Option (zaY yo×zak yn) :=bif(inb a1.2.2.2.1 a1.2.2.1.length)then bif(!((((nth a1.2.2.1 a1.2.2.2.1 ([],[],false,[])).2).2).1))then bif(ltb a1.2.2.2.2.1 a1.2.1.2)then bnd (yj8 a1) fun r13 =>some ((),(r1.2.1,r13.2.1,())) else some ((),(r1.2.1,a1,())) else some ((),(r1.2.1,a1,())) else none;let k5:Option (zaY yo×zak yn) :=bif(leb 0 a1.2.2.2.1)then k4 else some ((),(r1.2.1,a1,()));let k6:Option (zaY yo×zak yn) :=bnd (ycc r1.2.1 3) fun r15 =>bif r15.1.1 then bnd (yk r15.2.1 a1.2.1.1) fun r16 =>bif(inb r16.1.1 a1.2.2.1.length)then bnd (yk r16.2.1 a1.2.1.2) fun r17 =>let r18:=ybD r17.1.1;let r19:=ymZ ((nth a1.2.2.1 r16.1.1 ([],[],false,[])).1,((nth a1.2.2.1 r16.1.1 ([],[],false,[])).2).1,(((nth a1.2.2.1 r16.1.1 ([],[],false,[])).2).2)) r18;bif(inb r16.1.1 a1.2.2.1.length)then some ((),(r17.2.1,(a1.1,a1.2.1,(a1.2.2.1.set (r16.1.1).toNat r19),a1.2.2.2),())) else none else none else some ((),(r15.2.1,a1,()));let k7:Option (zaY yo×zak yn) :=bif(a1.2.2.2.1==(-1))then k6 else some ((),(r1.2.1,a1,()));let k8:Option (zaY yo×zak yn) :=bif(r1.1.1==12)then let r14:=ygn a1;some ((),(r1.2.1,r14,())) else k7;let k9:Option (zaY yo×zak yn) :=bif(r1.1.1==10)then k5 else k8;let k10:Option (zaY yo×zak yn) :=bif(r1.1.1==11)then k5 else k8;let k11:Option (zaY yo×zak yn) :=bif(r1.1.1==10)then k9 else k10;let k12:Option (zaY yo×zak yn) :=bif(r1.1.1==9)then k3 else k11;let k13:Option (zaY yo×zak yn) :=bif(r1.1.1==8)then k1 else k12;let k14:Option (zaY yo×zak yn) :=bif(r1.1.1==7)then bnd (ynO a1) fun r8 =>some ((),(r1.2.1,r8.2.1,())) else k13;let k15:Option (zaY yo×zak yn) :=bif(r1.1.1==4)then bnd (yk r1.2.1 a1.2.1.2) fun r6 =>bnd (yc5 a1 r6.1.1) fun r7 =>some ((),(r6.2.1,r7.2.1,())) else k14;let k16:Option (zaY yo×zak yn) :=bif(r1.1.1==5)then bnd (yk r1.2.1 a1.2.1.2) fun r27 =>bnd (yc5 a1 r27.1.1) fun r28 =>some ((),(r27.2.1,r28.2.1,())) else k14;let k17:Option (zaY yo×zak yn) :=bif(r1.1.1==6)then bnd (yk r1.2.1 a1.2.1.2) fun r48 =>bnd (yc5 a1 r48.1.1) fun r49 =>some ((),(r48.2.1,r49.2.1,())) else k14;let k18:Option (zaY yo×zak yn) :=bif(r1.1.1==5)then k16 else k17;let k19:Option (zaY yo×zak yn) :=bif(r1.1.1==4)then k15 else k18;bif(r1.1.1==0)then bif(r1.1.1==0)then let r2:=yd a1.2.1;bnd (yk r1.2.1 r2) fun r3 =>bnd (ybd r3.2.1) fun r4 =>bnd (ye9 a1 r3.1.1 r4.1.1) fun r5 =>some ((),(r4.2.1,r5.2.1,())) else k19 else bif(r1.1.1==1)then bif(r1.1.1==1)then let r69:=yd a1.2.1;bnd (yk r1.2.1 r69) fun r70 =>bnd (ybd r70.2.1) fun r71 =>bnd (ye9 a1 r70.1.1 r71.1.1) fun r72 =>some ((),(r71.2.1,r72.2.1,())) else k19 else bif(r1.1.1==2)then bif(r1.1.1==2)then let r136:=yd a1.2.1;bnd (yk r1.2.1 r136) fun r137 =>bnd (ybd r137.2.1) fun r138 =>bnd (ye9 a1 r137.1.1 r138.1.1) fun r139 =>some ((),(r138.2.1,r139.2.1,())) else k19 else bif(r1.1.1==3)then let r203:=yd a1.2.1;bnd (yk r1.2.1 r203) fun r204 =>bnd (ybd r204.2.1) fun r205 =>bnd (ye9 a1 r204.1.1 r205.1.1) fun r206 =>some ((),(r205.2.1,r206.2.1,())) else k19
theorem yTK:ConOk prog 163 ⟨yn,yo,fun x=>yiK x.1 x.2.1⟩:=zkI (yOQ) func163 ntmps163.symm fun x=>by kernel_rfl
def yEP:Con:=⟨yn,yo,fun x=>yiK x.1 x.2.1⟩
theorem yWK:ConOk prog 163 yEP:=yTK
def yxc (a:dA) (z:Option (zaY yo×zak yn)):Prop:= ∃(u':dU) (a':dA),z=some ((),(u',a',()))∧yeH u'∧Turned a a'
def y04 (u:dU) (a:dA):Option (zaY yo×zak yn) :=bnd (yk u (yd a.2.1)) fun r3=>bnd (ybd r3.2.1) fun r4=>bnd (ye9 a r3.1.1 r4.1.1) fun r5=>some ((),(r4.2.1,r5.2.1,()))
def yXn (u:dU) (a:dA):Option (zaY yo×zak yn) :=bnd (yk u a.2.1.2) fun r6=>bnd (yc5 a r6.1.1) fun r7=>some ((),(r6.2.1,r7.2.1,()))
def y0i (u:dU) (a:dA):Option (zaY yo×zak yn) :=bnd (ycc u 3) fun r9=>bif r9.1.1 then(bif(a.2.2.2.1==(-1))then(bnd (yk r9.2.1 a.2.1.1) fun r10=>bnd (yj7 a r10.1.1) fun r11=>some ((),(r10.2.1,r11.2.1,())))else some ((),(r9.2.1,a,())))else some ((),(r9.2.1,a,()))
def yXo (u:dU) (a:dA):Option (zaY yo×zak yn) :=bif leb 0 a.2.2.2.1 then(bif inb a.2.2.2.1 a.2.2.1.length then(bif(nth a.2.2.1 a.2.2.2.1 yh).2.2.1 then(bnd (yiE a) fun r12=>some ((),(u,r12.2.1,())))else some ((),(u,a,())))else none)else some ((),(u,a,()))
def y0j (u:dU) (a:dA):Option (zaY yo×zak yn) :=bif leb 0 a.2.2.2.1 then(bif inb a.2.2.2.1 a.2.2.1.length then(bif !(nth a.2.2.1 a.2.2.2.1 yh).2.2.1 then(bif ltb a.2.2.2.2.1 a.2.1.2 then(bnd (yj8 a) fun r13=>some ((),(u,r13.2.1,())))else some ((),(u,a,())))else some ((),(u,a,())))else none)else some ((),(u,a,()))
def yKQ (u:dU) (a:dA):Option (zaY yo×zak yn) :=bif(a.2.2.2.1==(-1))then(bnd (ycc u 3) fun r15=>bif r15.1.1 then(bnd (yk r15.2.1 a.2.1.1) fun r16=>bif inb r16.1.1 a.2.2.1.length then(bnd (yk r16.2.1 a.2.1.2) fun r17 =>bif inb r16.1.1 a.2.2.1.length then some ((),(r17.2.1,yeo a r16.1.1 (spoil (nth a.2.2.1 r16.1.1 yh) (yX r17.1.1)),()))else none)else none)else some ((),(r15.2.1,a,())))else some ((),(u,a,()))
theorem yHW {u:dU} {a:dA} (h:yaH a) (hk:yap a) (hu:yeH u):yxc a (y04 u a):=by
 have hg:=yj.1 h.1;have hd:=yis h.2.2.1 h.1;obtain⟨b,u1,e1,q1,d1⟩:=yfo u (yd a.2.1) hu;obtain⟨x,u2,e2,q2,d2⟩:=y26 u1 d1;have hx:isW x=true:=by rw[yb6]at q2; exact q2
 have hbl:0<yd a.2.1:=by
  rw[ykg h.1];exact Int.mul_pos (by omega) (by omega)
 have hb:yax a.2.1 b=true:=by
  have:=q1.2.1 hbl;unfold yax;rw[zk2 q1.1,zk2 (show b≤yd a.2.1-1 by omega)]; rfl
 unfold y04;rw[e1,zkH,e2,zkH,yZa a b x (by unfold ynP; rw[yKW.2 ⟨h,hk⟩,hb]; exact decide_eq_true (show a.2.2.2.2.2.2.2.2.1.length≤1000 by omega)),zkH];exact⟨_,_,rfl,d2,.put b x hb hx⟩
theorem yHV {u:dU} {a:dA} (h:yaH a) (hu:yeH u):yxc a (yXn u a):=by
 have hd:=yis h.2.2.1 h.1;obtain⟨s,u1,e1,q1,d1⟩:=yfo u a.2.1.2 hu;unfold yXn;rw[e1,zkH,yFe a s (decide_eq_true (show a.2.2.2.2.2.2.2.2.1.length≤1000 by omega)),zkH];exact⟨_,_,rfl,d1,.flush s⟩
theorem y2U {u:dU} {a:dA} (h:yaH a) (hu:yeH u):yxc a (bnd (ynO a) fun r8=>some ((),(u,r8.2.1,()))):=by
 have hd:=yis h.2.2.1 h.1;rw[yY8 a (decide_eq_true (show a.2.2.2.2.2.2.2.2.1.length≤1000 by omega)),zkH];exact⟨_,_,rfl,hu,.all⟩
theorem y2b {u:dU} {a:dA} (h:yaH a) (hk:yap a) (hu:yeH u):yxc a (y0i u a):=by
 have hg:=yj.1 h.1;have hl:=hk.1.2;obtain⟨r,u1,e1,d1⟩:=y0O u 3 hu;unfold y0i;rw[e1,zkH];cases r
 ·exact⟨_,_,rfl,d1,.same⟩
 ·cases h1:(a.2.2.2.1==(-1))
  ·exact⟨_,_,rfl,d1,.same⟩
  ·obtain⟨m,u2,e2,q2,d2⟩:=yfo u1 a.2.1.1 d1
   have hm:inb m a.2.2.1.length=true:=zj6.2 ⟨q2.1,by have:=q2.2.1 (by omega); omega⟩;simp only[cond_true];rw[e2,zkH,yT9 a m hm,zkH];exact⟨_,_,rfl,d2,.fail m (beq_iff_eq.1 h1) hm⟩
theorem y1u {u:dU} {a:dA} (h:yaH a) (hk:yap a) (hu:yeH u):yxc a (yXo u a):=by
 have hl:=hk.1.2;have hc:=h.2.2.2.1;unfold yXo;cases h0:leb 0 a.2.2.2.1
 ·exact⟨_,_,rfl,hu,.same⟩
 ·have hi:inb a.2.2.2.1 a.2.2.1.length=true:=zj6.2 ⟨zj7.1 h0,by omega⟩
  rw[hi];cases hf:(nth a.2.2.1 a.2.2.2.1 yh).2.2.1
  ·exact⟨_,_,rfl,hu,.same⟩
  ·simp only[cond_true]
   rw[yQF a (by unfold yiI; rw[h.1,hi]; rfl),zkH];exact⟨_,_,rfl,hu,.spare hi hf⟩
theorem yXp {u:dU} {a:dA} (h:yaH a) (hk:yap a) (hu:yeH u):yxc a (y0j u a):=by
 have hl:=hk.1.2;have hc:=h.2.2.2.1;unfold y0j;cases h0:leb 0 a.2.2.2.1
 ·exact⟨_,_,rfl,hu,.same⟩
 ·have h0':=zj7.1 h0
  have hi:inb a.2.2.2.1 a.2.2.1.length=true:=zj6.2 ⟨h0',by omega⟩;rw[hi];cases hf:(nth a.2.2.1 a.2.2.2.1 yh).2.2.1
  ·cases hb:ltb a.2.2.2.2.1 a.2.1.2
   ·exact⟨_,_,rfl,hu,.same⟩
   ·simp only[cond_true,Bool.not_false]
    rw[yUa a (by unfold ykb; rw[h.1,hi,zj6.2 (show 0≤a.2.2.2.1∧a.2.2.2.1<a.2.1.1.toNat by omega)]; rfl),zkH];exact⟨_,_,rfl,hu,.step hi hf (zka.1 hb)⟩
  ·exact⟨_,_,rfl,hu,.same⟩
theorem y1v {u:dU} {a:dA} (h:yaH a) (hk:yap a) (hu:yeH u):yxc a (yKQ u a):=by
 have hg:=yj.1 h.1;have hl:=hk.1.2;unfold yKQ;cases hlo:(a.2.2.2.1==(-1))
 ·exact⟨_,_,rfl,hu,.same⟩
 ·obtain⟨r,u1,e1,d1⟩:=y0O u 3 hu
  simp only[cond_true];rw[e1,zkH];cases r
  ·exact⟨_,_,rfl,d1,.same⟩
  ·obtain⟨m,u2,e2,q2,d2⟩:=yfo u1 a.2.1.1 d1
   have hm:inb m a.2.2.1.length=true:=zj6.2 ⟨q2.1,by have:=q2.2.1 (by omega); omega⟩;obtain⟨s,u3,e3,q3,d3⟩:=yfo u2 a.2.1.2 d2;simp only[cond_true];rw[e2,zkH];simp only[hm,cond_true];rw[e3,zkH];exact⟨_,_,rfl,d3,.spoil m s (beq_iff_eq.1 hlo) hm q3.1 (q3.2.1 (by omega))⟩
theorem y28 (u:dU) (a:dA) (hu:yeH u) (h:yaH a) (hk:yap a):yxc a (yiK u a):=by
 obtain⟨r,u1,e1,q1,d1⟩:=yfo u 14 hu;have hr:=q1.2.1 (by omega);have h0:=q1.1;unfold yiK;rw[e1,zkH];have hc:(r=0∨r=1∨r=2∨r=3)∨(r=4∨r=5∨r=6)∨r=7∨r=8∨r=9∨(r=10∨r=11)∨r=12∨r=13:=by omega
 rcases hc with(rfl | rfl | rfl | rfl) | (rfl | rfl | rfl) | rfl | rfl | rfl | (rfl | rfl) | rfl | rfl
 ·exact yHW h hk d1
 ·exact yHW h hk d1
 ·exact yHW h hk d1
 ·exact yHW h hk d1
 ·exact yHV h d1
 ·exact yHV h d1
 ·exact yHV h d1
 ·exact y2U h d1
 ·exact y2b h hk d1
 ·exact y1u h hk d1
 ·exact yXp h hk d1
 ·exact yXp h hk d1
 ·refine⟨u1,yW a,?_,d1,.check⟩
  rw[← yH6]; rfl
 ·have:=y1v h hk d1
  unfold yKQ at this;simp only[← ygo]at this;exact this
def yqd:Code:=(f124.body).getD .skip
def yyy:Env:=zkw TT [(72,yeu),(115,yED),(116,yGq),(163,yEP)] []
theorem yOL:FrOk prog ⟨yyy,24,fun _=>none⟩ yqd:=zkA mixed yc ⟨yiF,yWy,yY3,yWK,trivial⟩
def yEe:Nat→Option Seg:=fun _=>none
def ycL:Shape:=⟨[(0,false,[.ptr 1000000000 0]),(4,false,[.ptr 0 0]),(5,false,[.ptr 4480 0]),(6,false,[.int .i64])],[(0,[.int .i64,.int .i64,.int .i64,.nil,.int .i64,.int .i64,.int .i64,.int .i64,.int .i64,.nil,.int .i64,.bool,.bool]),(4480,[.int .i64,.int .i64,.int .i64,.at 800000000,.int .i64,.int .i64,.int .i64,.int .i64,.int .i64,.at 800000001,.int .i64,.bool,.bool]),(1000000000,[.fz tY,.int .i64,.int .i64])],[(800000000,tM,(.pr (.ow .fz) (.pr (.ow (.pr .fz .fz)) (.pr .fz (.ow .fz))))),(800000001,tW,(.pr .fz .fz))]⟩
def ygM:Shape:=⟨[(0,false,[.ptr 1000000000 0]),(4,false,[.ptr 0 0]),(5,false,[.ptr 4480 0]),(6,false,[.int .i64])],[(0,[.int .i64,.int .i64,.int .i64,.nil,.int .i64,.int .i64,.int .i64,.int .i64,.int .i64,.nil,.int .i64,.bool,.bool]),(4480,[.int .i64,.int .i64,.int .i64,.at 800000000,.int .i64,.int .i64,.int .i64,.int .i64,.int .i64,.at 800000001,.int .i64,.bool,.bool]),(1000000000,[.fz tY,.int .i64,.int .i64])],[(800000000,tM,(.pr (.ow .fz) (.pr (.ow (.pr .fz .fz)) (.pr .fz (.ow .fz))))),(800000001,tW,(.pr .fz .fz))]⟩
def ygC:Shape:=⟨[(4,false,[.ptr 0 0]),(5,false,[.ptr 4480 0])],[(0,[.int .i64,.int .i64,.int .i64,.nil,.int .i64,.int .i64,.int .i64,.int .i64,.int .i64,.nil,.int .i64,.bool,.bool]),(4480,[.int .i64,.int .i64,.int .i64,.at 800000000,.int .i64,.int .i64,.int .i64,.int .i64,.int .i64,.at 800000001,.int .i64,.bool,.bool]),(1000000000,[.fz tY,.int .i64,.int .i64])],[(800000000,tM,(.pr (.ow .fz) (.pr (.ow (.pr .fz .fz)) (.pr .fz (.ow .fz))))),(800000001,tW,(.pr .fz .fz))]⟩
def ykE:Shape:=⟨[],[],[]⟩
abbrev ypo (v0:Int) (v1 v2:dA) (v3:dU):(ycL).X:=((((),()),((),()),((),()),(v0,()),()),((v1.1,v1.2.1.1,v1.2.1.2,(),v1.2.2.2.1,v1.2.2.2.2.1,v1.2.2.2.2.2.1,v1.2.2.2.2.2.2.1,v1.2.2.2.2.2.2.2.1,(),v1.2.2.2.2.2.2.2.2.2.1,v1.2.2.2.2.2.2.2.2.2.2.1,v1.2.2.2.2.2.2.2.2.2.2.2,()),(v2.1,v2.2.1.1,v2.2.1.2,(),v2.2.2.2.1,v2.2.2.2.2.1,v2.2.2.2.2.2.1,v2.2.2.2.2.2.2.1,v2.2.2.2.2.2.2.2.1,(),v2.2.2.2.2.2.2.2.2.2.1,v2.2.2.2.2.2.2.2.2.2.2.1,v2.2.2.2.2.2.2.2.2.2.2.2,()),(v3.1,v3.2.1,v3.2.2,()),()),(v2.2.2.1,v2.2.2.2.2.2.2.2.2.1,()))
abbrev yMy (v0:Int) (v1 v2:dA) (v3:dU):(ygM).X:=((((),()),((),()),((),()),(v0,()),()),((v1.1,v1.2.1.1,v1.2.1.2,(),v1.2.2.2.1,v1.2.2.2.2.1,v1.2.2.2.2.2.1,v1.2.2.2.2.2.2.1,v1.2.2.2.2.2.2.2.1,(),v1.2.2.2.2.2.2.2.2.2.1,v1.2.2.2.2.2.2.2.2.2.2.1,v1.2.2.2.2.2.2.2.2.2.2.2,()),(v2.1,v2.2.1.1,v2.2.1.2,(),v2.2.2.2.1,v2.2.2.2.2.1,v2.2.2.2.2.2.1,v2.2.2.2.2.2.2.1,v2.2.2.2.2.2.2.2.1,(),v2.2.2.2.2.2.2.2.2.2.1,v2.2.2.2.2.2.2.2.2.2.2.1,v2.2.2.2.2.2.2.2.2.2.2.2,()),(v3.1,v3.2.1,v3.2.2,()),()),(v2.2.2.1,v2.2.2.2.2.2.2.2.2.1,()))
abbrev yMq (v0 v1:dA) (v2:dU):(ygC).X:=((((),()),((),()),()),((v0.1,v0.2.1.1,v0.2.1.2,(),v0.2.2.2.1,v0.2.2.2.2.1,v0.2.2.2.2.2.1,v0.2.2.2.2.2.2.1,v0.2.2.2.2.2.2.2.1,(),v0.2.2.2.2.2.2.2.2.2.1,v0.2.2.2.2.2.2.2.2.2.2.1,v0.2.2.2.2.2.2.2.2.2.2.2,()),(v1.1,v1.2.1.1,v1.2.1.2,(),v1.2.2.2.1,v1.2.2.2.2.1,v1.2.2.2.2.2.1,v1.2.2.2.2.2.2.1,v1.2.2.2.2.2.2.2.1,(),v1.2.2.2.2.2.2.2.2.2.1,v1.2.2.2.2.2.2.2.2.2.2.1,v1.2.2.2.2.2.2.2.2.2.2.2,()),(v2.1,v2.2.1,v2.2.2,()),()),(v1.2.2.1,v1.2.2.2.2.2.2.2.2.1,()))
def ypW (v0 v1 v2 v3 v4 v5 v6 v7 v8 v9:Int) (v10 v11:Bool) (v12 v13 v14 v15 v16 v17 v18 v19 v20:Int) (v21 v22:Bool) (v23:List Int) (v24 v25:Int) (v26:List dM) (v27:List dW):Option ((ycL).X ⊕ ((ygC).X ⊕ (ykE).X)) :=bif(ltb 0 v0)then bnd (yiK (v23,v24,v25) (v12,(v13,v14),v26,v15,v16,v17,v18,v19,v27,v20,v21,v22)) fun r6 =>some (.inl ((((),()),((),()),((),()),((i64.wrap (v0-1)),()),()),((v1,v2,v3,(),v4,v5,v6,v7,v8,(),v9,v10,v11,()),(r6.2.2.1.1,r6.2.2.1.2.1.1,r6.2.2.1.2.1.2,(),r6.2.2.1.2.2.2.1,r6.2.2.1.2.2.2.2.1,r6.2.2.1.2.2.2.2.2.1,r6.2.2.1.2.2.2.2.2.2.1,r6.2.2.1.2.2.2.2.2.2.2.1,(),r6.2.2.1.2.2.2.2.2.2.2.2.2.1,r6.2.2.1.2.2.2.2.2.2.2.2.2.2.1,r6.2.2.1.2.2.2.2.2.2.2.2.2.2.2,()),(r6.2.1.1,r6.2.1.2.1,r6.2.1.2.2,()),()),(r6.2.2.1.2.2.1,r6.2.2.1.2.2.2.2.2.2.2.2.1,()))) else some (.inr (.inl ((((),()),((),()),()),((v1,v2,v3,(),v4,v5,v6,v7,v8,(),v9,v10,v11,()),(v12,v13,v14,(),v15,v16,v17,v18,v19,(),v20,v21,v22,()),(v23,v24,v25,()),()),(v26,v27,()))))
def ydc (x:(ycL).X):=ypW x.1.2.2.2.1.1 x.2.1.1.1 x.2.1.1.2.1 x.2.1.1.2.2.1 x.2.1.1.2.2.2.2.1 x.2.1.1.2.2.2.2.2.1 x.2.1.1.2.2.2.2.2.2.1 x.2.1.1.2.2.2.2.2.2.2.1 x.2.1.1.2.2.2.2.2.2.2.2.1 x.2.1.1.2.2.2.2.2.2.2.2.2.2.1 x.2.1.1.2.2.2.2.2.2.2.2.2.2.2.1 x.2.1.1.2.2.2.2.2.2.2.2.2.2.2.2.1 x.2.1.2.1.1 x.2.1.2.1.2.1 x.2.1.2.1.2.2.1 x.2.1.2.1.2.2.2.2.1 x.2.1.2.1.2.2.2.2.2.1 x.2.1.2.1.2.2.2.2.2.2.1 x.2.1.2.1.2.2.2.2.2.2.2.1 x.2.1.2.1.2.2.2.2.2.2.2.2.1 x.2.1.2.1.2.2.2.2.2.2.2.2.2.2.1 x.2.1.2.1.2.2.2.2.2.2.2.2.2.2.2.1 x.2.1.2.1.2.2.2.2.2.2.2.2.2.2.2.2.1 x.2.1.2.2.1.1 x.2.1.2.2.1.2.1 x.2.1.2.2.1.2.2.1 x.2.2.1 x.2.2.2.1
def yAy (x:(ygM).X):(ycL).X:=((((),()),((),()),((),()),(x.1.2.2.2.1.1,()),()),((x.2.1.1.1,x.2.1.1.2.1,x.2.1.1.2.2.1,(),x.2.1.1.2.2.2.2.1,x.2.1.1.2.2.2.2.2.1,x.2.1.1.2.2.2.2.2.2.1,x.2.1.1.2.2.2.2.2.2.2.1,x.2.1.1.2.2.2.2.2.2.2.2.1,(),x.2.1.1.2.2.2.2.2.2.2.2.2.2.1,x.2.1.1.2.2.2.2.2.2.2.2.2.2.2.1,x.2.1.1.2.2.2.2.2.2.2.2.2.2.2.2.1,()),(x.2.1.2.1.1,x.2.1.2.1.2.1,x.2.1.2.1.2.2.1,(),x.2.1.2.1.2.2.2.2.1,x.2.1.2.1.2.2.2.2.2.1,x.2.1.2.1.2.2.2.2.2.2.1,x.2.1.2.1.2.2.2.2.2.2.2.1,x.2.1.2.1.2.2.2.2.2.2.2.2.1,(),x.2.1.2.1.2.2.2.2.2.2.2.2.2.2.1,x.2.1.2.1.2.2.2.2.2.2.2.2.2.2.2.1,x.2.1.2.1.2.2.2.2.2.2.2.2.2.2.2.2.1,()),(x.2.1.2.2.1.1,x.2.1.2.2.1.2.1,x.2.1.2.2.1.2.2.1,()),()),(x.2.2.1,x.2.2.2.1,()))
def yCo:Code:=(zd7 yqd 64 116).getD .skip
theorem yN5:zd7 yqd 64 29=some (.block 0 (.loop yCo)):=by kernel_rfl
theorem yQO (x:(ycL).X):zhu ⟨yyy,24,yEe⟩ 0 yCo 116 ycL ygC ykE x=ydc x:=by kernel_rfl
def yAI (x:(ygM).X):Nat:=18446744073709551616
def yqS (x:(ygM).X):Option ((ygC).X ⊕ (ykE).X):=zF ydc (yAI x) (yAy x)
def yA2:Seg:=⟨ygM,ygC,ykE,yqS⟩
def yRd:Nat→Option Seg:=fun q=>bif Nat.beq q 29 then some yA2 else yEe q
theorem yOM:FrOk prog ⟨yyy,24,yRd⟩ yqd:=(yOL).loop (sg:=yA2) ycL yAy (by decide) yN5 ydc yAI (by decide) (fun _=>rfl) (fun x r _ h=>h) yQO
abbrev yyV:List Par:= [.pt tU .fz,.rd tI]
abbrev yzq:List OT:= [⟨false,tA,(.pr .fz (.pr (.pr .fz .fz) (.pr (.ow (.pr (.ow .fz) (.pr (.ow (.pr .fz .fz)) (.pr .fz (.ow .fz))))) (.pr .fz (.pr .fz (.pr .fz (.pr .fz (.pr .fz (.pr (.ow (.pr .fz .fz)) (.pr .fz (.pr .fz .fz)))))))))))⟩]
def yiJ (a0:dU) (a1:Int):Option (zaY yzq×zak yyV) :=bnd (yk a0 2) fun r1 =>bnd (ykf r1.2.1) fun r2 =>let r3:=yll (i64.wrap (1+r1.1.1)) r2.1.1;bnd (yk r2.2.1 (i64.wrap (a1+1))) fun r4 =>zkt (yqS ((((),()),((),()),((),()),(r4.1.1,()),()),((0,0,0,(),0,0,0,0,0,(),0,false,false,()),(r3.1,r3.2.1.1,r3.2.1.2,(),r3.2.2.2.1,r3.2.2.2.2.1,r3.2.2.2.2.2.1,r3.2.2.2.2.2.2.1,r3.2.2.2.2.2.2.2.1,(),r3.2.2.2.2.2.2.2.2.2.1,r3.2.2.2.2.2.2.2.2.2.2.1,r3.2.2.2.2.2.2.2.2.2.2.2,()),(r4.2.1.1,r4.2.1.2.1,r4.2.1.2.2,()),()),(r3.2.2.1,r3.2.2.2.2.2.2.2.2.1,()))) (fun y6 =>some (((y6.2.1.2.1.1,(y6.2.1.2.1.2.1,y6.2.1.2.1.2.2.1),y6.2.2.1,y6.2.1.2.1.2.2.2.2.1,y6.2.1.2.1.2.2.2.2.2.1,y6.2.1.2.1.2.2.2.2.2.2.1,y6.2.1.2.1.2.2.2.2.2.2.2.1,y6.2.1.2.1.2.2.2.2.2.2.2.2.1,y6.2.2.2.1,y6.2.1.2.1.2.2.2.2.2.2.2.2.2.2.1,y6.2.1.2.1.2.2.2.2.2.2.2.2.2.2.2.1,y6.2.1.2.1.2.2.2.2.2.2.2.2.2.2.2.2.1),()),((y6.2.1.2.2.1.1,y6.2.1.2.2.1.2.1,y6.2.1.2.2.1.2.2.1),()))) (fun y6 =>none)
theorem yTH:ConOk prog 124 ⟨yyV,yzq,fun x=>yiJ x.1 x.2.1⟩:=zkI (yOM) func124 ntmps124.symm fun x=>by kernel_rfl
def yEN:Con:=⟨yyV,yzq,fun x=>yiJ x.1 x.2.1⟩
theorem yWI:ConOk prog 124 yEN:=yTH
theorem yW6 {P:Int→dA→Prop} {K:Int} (hP: ∀k a,P k a→yaH a∧yap a) (hT: ∀k a b,P k a→Turned a b→k+16≤K→P (k+16) b): ∀(n:Nat) (k:Int) (a:dA) (u:dU) (fuel:Nat),n<fuel→n≤1000→yeH u→P k a→k+16*n≤K →
  ∃(a':dA) (u':dU),zF ydc fuel (ypo n ycC a u)=some (.inl (yMq ycC a' u'))∧yeH u'∧P (k+16*n) a'
 | 0,k,a,u,fuel+1,_,_,hu,h,_=>⟨a,u,by simp only[zF,ydc,ypo,ypW]; rfl,hu,by rw[show k+16*((0:Nat):Int)=k by omega]; exact h⟩
 | n+1,k,a,u,fuel+1,hf,hn,hu,h,hk=>by
  obtain⟨hc,hkp⟩:=hP k a h;obtain⟨u1,a1,e1,d1,h1⟩:=y28 u a hu hc hkp;obtain⟨a',u',e2,d2,h2⟩:=yW6 hP hT n (k+16) a1 u1 fuel (by omega) (by omega) d1 (hT k a a1 h h1 (by omega)) (by omega);refine⟨a',u',?_,d2,by rw[show k+16*((n+1:Nat):Int)=k+16+16*(n:Int)by omega]; exact h2⟩;rw[← e2,zF];simp only[ydc,ypo,ypW,zky (show(0:Int)<((n+1:Nat):Int)by omega),cond_true,zkX,e1,zkH,show((n+1:Nat):Int)-1=(n:Int)by omega,wq ((n:Int)) (by omega) (by omega)]
theorem y1g {P:Int→dA→Prop} {K:Int} (hP: ∀k a,P k a→yaH a∧yap a) (hT: ∀k a b,P k a→Turned a b→k+16≤K→P (k+16) b) (h0P: ∀id g,ye g=true→1≤id→id≤60000→P 0 (yla id g))
  (u:dU) (most:Int) (h:yeH u) (h0:0≤most) (h1:most≤1000) (hm:16*most≤K): ∃(a:dA) (u':dU) (k:Int),yiJ u most=some ((a,()),(u',()))∧P k a∧k≤16*most∧yeH u':=by
 obtain⟨r1,u1,e1,q1,d1⟩:=yfo u 2 h;obtain⟨g,u2,e2,q2,d2⟩:=y2t u1 d1;obtain⟨r3,u3,e3,q3,d3⟩:=yfo u2 (most+1) d2;have:=q1.1; have:=q1.2.1 (by omega); have:=q3.1; have:=q3.2.1 (by omega);have hn:=h0P (1+r1) g q2 (by omega) (by omega);obtain⟨a',u',e4,d4,h4⟩:=yW6 hP hT r3.toNat 0 (yla (1+r1) g) u3 18446744073709551616 (by omega) (by omega) d3 hn (by omega);rw[show((r3.toNat:Nat):Int)=r3 by omega]at e4;unfold yiJ;simp only[e1,e2,zkH,wq (most+1) (by omega) (by omega),e3,wq (1+r1) (by omega) (by omega),yll];refine⟨a',u',_,?_,h4,by omega,d4⟩;exact(congrArg (fun z=>zkt z _ _) (show yqS (yMy r3 ycC (yla (1+r1) g) u3)=_ from e4)).trans rfl
def yUD:Code:=(f52.body).getD .skip
def yU6:Env:=zkw TT [(69,yGp),(71,yEK),(124,yEN)] []
theorem yL5:FrOk prog ⟨yU6,11,fun _=>none⟩ yUD:=zkA mixed yc ⟨yY2,yWF,yWI,trivial⟩
abbrev yvY:List Par:= [.kp tYs .fz]
abbrev ywg:List OT:= [⟨false,tA,(.pr .fz (.pr (.pr .fz .fz) (.pr (.ow (.pr (.ow .fz) (.pr (.ow (.pr .fz .fz)) (.pr .fz (.ow .fz))))) (.pr .fz (.pr .fz (.pr .fz (.pr .fz (.pr .fz (.pr (.ow (.pr .fz .fz)) (.pr .fz (.pr .fz .fz)))))))))))⟩]
def yg9 (a0:List Int):Option (zaY ywg×zak yvY) :=let r1:=yj1 a0;let r2:=yd9 a0 24;bnd (yiJ r1 (i64.wrap (6+r2))) fun r3 =>some ((r3.1.1,()),())
theorem yQb:ConOk prog 52 ⟨yvY,ywg,fun x=>yg9 x.1⟩:=zkI (yL5) func52 ntmps52.symm fun x=>by kernel_rfl
def yCA:Con:=⟨yvY,ywg,fun x=>yg9 x.1⟩
theorem yTZ:ConOk prog 52 yCA:=yQb
theorem y1f (a0:List Int) (hb:a0.length≤140737488355328): ∃(a:dA) (V:Int→Int→Int),yg9 a0=some ((a,()),())∧Wk 480 a∧Ix 480 V a:=by
 obtain⟨h1,h2⟩:=y27 a0 24 (by omega) hb
 obtain⟨a,u',k,e,⟨q1,V,q2⟩,hk,d⟩:=y1g (P:=fun k a=>Wk k a∧ ∃V,Ix k V a) (K:=480) (fun k a h=>⟨h.1.1,h.1.2.1⟩)
  (fun k a b h ht hk=>by
   obtain⟨hw,V,hi⟩:=h;have hw':=y2h hw ht (by omega)
   exact⟨ydg hw' (by omega),y1V hi ht (by omega) hw'.2.2.1.1⟩) (fun id g g1 g2 g3=>⟨y2e g1 g2 g3,_,y3K g1 g2 g3⟩) _ (6+yd9 a0 24) (y3D a0 hb) (by omega) (by omega) (by omega)
 refine⟨a,V,?_,ydg q1 (by omega),yc1 q2 (by omega)⟩;unfold yg9;simp only[wq (6+yd9 a0 24) (by omega) (by omega),e,zkH]
def yn9:Code:=(f54.body).getD .skip
def yvG:Env:=zkw TT [(68,ytN),(123,ygi)] []
theorem yLI:FrOk prog ⟨yvG,32,fun _=>none⟩ yn9:=zkA mixed yc ⟨yGM,yls,trivial⟩
def yBl:Nat→Option Seg:=fun _=>none
def ybR:Shape:=⟨[(1,false,[.ptr 0 0]),(3,false,[.at 800000000]),(15,false,[.int .i64]),(16,false,[.int .i64])],[(0,[.int .i64,.int .i64,.int .i64,.br tM,.int .i64,.int .i64,.int .i64,.int .i64,.int .i64,.br tW,.int .i64,.bool,.bool])],[(800000000,tI,.fz)]⟩
def yfM:Shape:=⟨[(1,false,[.ptr 0 0]),(3,false,[.at 800000000]),(15,false,[.int .i64]),(16,false,[.ci .i64 0])],[(0,[.int .i64,.int .i64,.int .i64,.br tM,.int .i64,.int .i64,.int .i64,.int .i64,.int .i64,.br tW,.int .i64,.bool,.bool])],[(800000000,tI,.fz)]⟩
def yfA:Shape:=⟨[(3,false,[.at 800000000])],[],[(800000000,tI,.fz)]⟩
def yfY:Shape:=⟨[(2,false,[.nil])],[],[]⟩
abbrev yny (v0 v1:Int) (v2:dA) (v3:List Int):(ybR).X:=((((),()),((),()),(v0,()),(v1,()),()),((v2.1,v2.2.1.1,v2.2.1.2,v2.2.2.1,v2.2.2.2.1,v2.2.2.2.2.1,v2.2.2.2.2.2.1,v2.2.2.2.2.2.2.1,v2.2.2.2.2.2.2.2.1,v2.2.2.2.2.2.2.2.2.1,v2.2.2.2.2.2.2.2.2.2.1,v2.2.2.2.2.2.2.2.2.2.2.1,v2.2.2.2.2.2.2.2.2.2.2.2,()),()),(v3,()))
abbrev yJ5 (v0:Int) (v1:dA) (v2:List Int):(yfM).X:=((((),()),((),()),(v0,()),((),()),()),((v1.1,v1.2.1.1,v1.2.1.2,v1.2.2.1,v1.2.2.2.1,v1.2.2.2.2.1,v1.2.2.2.2.2.1,v1.2.2.2.2.2.2.1,v1.2.2.2.2.2.2.2.1,v1.2.2.2.2.2.2.2.2.1,v1.2.2.2.2.2.2.2.2.2.1,v1.2.2.2.2.2.2.2.2.2.2.1,v1.2.2.2.2.2.2.2.2.2.2.2,()),()),(v2,()))
abbrev yx3 (v0:List Int):(yfA).X:=((((),()),()),(),(v0,()))
abbrev yKg  :(yfY).X:=((((),()),()),(),())
def ynV (v0 v1 v2 v3 v4:Int) (v5:List dM) (v6 v7 v8 v9 v10:Int) (v11:List dW) (v12:Int) (v13 v14:Bool) (v15:List Int):Option ((ybR).X ⊕ ((yfA).X ⊕ (yfY).X)) :=bif(ltb v1 v0)then let r3:=yfr (v2,(v3,v4),v5,v6,v7,v8,v9,v10,v11,v12,v13,v14) v1;bif(!r3.2)then some (.inr (.inr ((((),()),()),(),()))) else bif(zkl v15.length r3.1.length 8)then some (.inl ((((),()),((),()),(v0,()),((i64.wrap (v1+1)),()),()),((v2,v3,v4,v5,v6,v7,v8,v9,v10,v11,v12,v13,v14,()),()),((v15++r3.1),()))) else none else some (.inr (.inl ((((),()),()),(),(v15,()))))
def yce (x:(ybR).X):=ynV x.1.2.2.1.1 x.1.2.2.2.1.1 x.2.1.1.1 x.2.1.1.2.1 x.2.1.1.2.2.1 x.2.1.1.2.2.2.1 x.2.1.1.2.2.2.2.1 x.2.1.1.2.2.2.2.2.1 x.2.1.1.2.2.2.2.2.2.1 x.2.1.1.2.2.2.2.2.2.2.1 x.2.1.1.2.2.2.2.2.2.2.2.1 x.2.1.1.2.2.2.2.2.2.2.2.2.1 x.2.1.1.2.2.2.2.2.2.2.2.2.2.1 x.2.1.1.2.2.2.2.2.2.2.2.2.2.2.1 x.2.1.1.2.2.2.2.2.2.2.2.2.2.2.2.1 x.2.2.1
def yxw (x:(yfM).X):(ybR).X:=((((),()),((),()),(x.1.2.2.1.1,()),(0,()),()),((x.2.1.1.1,x.2.1.1.2.1,x.2.1.1.2.2.1,x.2.1.1.2.2.2.1,x.2.1.1.2.2.2.2.1,x.2.1.1.2.2.2.2.2.1,x.2.1.1.2.2.2.2.2.2.1,x.2.1.1.2.2.2.2.2.2.2.1,x.2.1.1.2.2.2.2.2.2.2.2.1,x.2.1.1.2.2.2.2.2.2.2.2.2.1,x.2.1.1.2.2.2.2.2.2.2.2.2.2.1,x.2.1.1.2.2.2.2.2.2.2.2.2.2.2.1,x.2.1.1.2.2.2.2.2.2.2.2.2.2.2.2.1,()),()),(x.2.2.1,()))
def yz0:Code:=(zd7 yn9 64 244).getD .skip
theorem yLu:zd7 yn9 64 61=some (.block 0 (.loop yz0)):=by kernel_rfl
theorem yNh (x:(ybR).X):zhu ⟨yvG,32,yBl⟩ 0 yz0 244 ybR yfA yfY x=yce x:=by kernel_rfl
def yxN (x:(yfM).X):Nat:=18446744073709551616
def yoT (x:(yfM).X):Option ((yfA).X ⊕ (yfY).X):=zF yce (yxN x) (yxw x)
def yyg:Seg:=⟨yfM,yfA,yfY,yoT⟩
def yNJ:Nat→Option Seg:=fun q=>bif Nat.beq q 61 then some yyg else yBl q
theorem yLJ:FrOk prog ⟨yvG,32,yNJ⟩ yn9:=(yLI).loop (sg:=yyg) ybR yxw (by decide) yLu yce yxN (by decide) (fun _=>rfl) (fun x r _ h=>h) yNh
abbrev yoi:List Par:= [.rd tA]
abbrev yv3:List OT:= [⟨false,tL,(.ow .fz)⟩]
def yrs (a0:dA):Option (zaY yv3×zak yoi) :=let r1:=ybw a0.2.1;bif(!r1)then some ((([]:List Int),()),()) else zkt (yoT ((((),()),((),()),(a0.2.1.2,()),((),()),()),((a0.1,a0.2.1.1,a0.2.1.2,a0.2.2.1,a0.2.2.2.1,a0.2.2.2.2.1,a0.2.2.2.2.2.1,a0.2.2.2.2.2.2.1,a0.2.2.2.2.2.2.2.1,a0.2.2.2.2.2.2.2.2.1,a0.2.2.2.2.2.2.2.2.2.1,a0.2.2.2.2.2.2.2.2.2.2.1,a0.2.2.2.2.2.2.2.2.2.2.2,()),()),(([]:List Int),()))) (fun y3 =>some ((y3.2.2.1,()),())) (fun y3 =>some (([],()),()))
theorem yPX:ConOk prog 54 ⟨yoi,yv3,fun x=>yrs x.1⟩:=zkI (yLJ) func54 ntmps54.symm fun x=>by kernel_rfl
def yjU (a0:dA):List Int:=yr3 a0
theorem ySP (a0:dA) (hk:zjx yoi (a0,())):yrs a0=(fun n=>some ((n,()),())) (yjU a0):=by
 unfold yrs yjU yr3;rw[yJW];cases hg0:ye a0.2.1
 ·rw[show yO a0=false by unfold yO; rw[hg0]; rfl]; rfl
 have hg:=yj.1 hg0
 have h1:yoT (yJ5 a0.2.1.2 a0 [])=some (bif(List.range a0.2.1.2.toNat).all (fun(s:Nat)=>(ybO a0 s).2)then .inl (yx3 ((List.range a0.2.1.2.toNat).foldl (fun l (s:Nat)=>l++(ybO a0 s).1) []))else .inr (yKg)) :=
  zhU (step:=yce) a0.2.1.2.toNat (fun i s=>yny a0.2.1.2 i a0 s) (fun(s:Nat)=>(ybO a0 s).2) (fun l (s:Nat)=>l++(ybO a0 s).1) (fun i s=>s.length≤4*i) (fun s=> .inl (yx3 s)) _ (fun i s hi hs=>by
   have:=y1c i hg0;refine⟨?_,fun _=>by rw[List.length_append]; omega⟩;simp only[yce,yny,ynV,zky (show(i:Int)<a0.2.1.2 by omega),cond_true,wq ((i:Int)+1) (by omega) (by omega),Int.natCast_add,Int.natCast_one,Int.toNat_natCast,zkX,yfr,zkF.2 (show(s.length+(ybO a0 i).1.length)*8≤140737488355328 by omega)]
   cases(ybO a0 i).2<;>rfl) (fun s hs=>by simp only[yce,yny,ynV,zk3 (show a0.2.1.2≤(a0.2.1.2.toNat:Int)by omega),cond_false]) [] (Nat.zero_le _) _ (by show _<18446744073709551616; omega)
 rw[h1,yW8];cases ha:yO a0
 ·have:(List.range a0.2.1.2.toNat).all (fun(s:Nat)=>(ybO a0 s).2)=false:=by
   rw[List.all_eq_false];refine⟨0,List.mem_range.2 (by omega),?_⟩;unfold ybO;rw[ha]; simp
  rw[this]; rfl
 ·cases(List.range a0.2.1.2.toNat).all (fun(s:Nat)=>(ybO a0 s).2)<;>rfl
def yCr:Con:=⟨yoi,yv3,fun x=>(fun n=>some ((n,()),())) (yjU x.1)⟩
theorem yTQ:ConOk prog 54 yCr:=(yPX).mono (fun x r hk h=>(ySP x.1 hk).trans h)
def yZf:Code:=(f56.body).getD .skip
def yZs:Env:=zkw TT [] []
theorem yRX:FrOk prog ⟨yZs,7,fun _=>none⟩ yZf:=zkA mixed yc trivial
abbrev yBI:List Par:= [.rd tA]
abbrev yBS:List OT:= [⟨false,tB,.fz⟩]
def yGZ (a0:dA):Option (zaY yBS×zak yBI) :=some ((((a0.2.2.2.2.2.2.2.2.1.length:Int)==0),()),())
theorem yV7:ConOk prog 56 ⟨yBI,yBS,fun x=>yGZ x.1⟩:=zkI (yRX) func56 ntmps56.symm fun x=>by kernel_rfl
def ynJ (a0:dA):Bool :=((a0.2.2.2.2.2.2.2.2.1.length:Int)==0)
def yGh:Con:=⟨yBI,yBS,fun x=>(fun n=>some ((n,()),())) (ynJ x.1)⟩
theorem yYu (a0:dA):yGZ a0=(fun n=>some ((n,()),())) (ynJ a0):=zkV (p:=fun(n:Bool)=>((n,()),())) rfl
theorem yYU:ConOk prog 56 yGh:=(yV7).mono (fun x r _ h=>(yYu x.1).trans h)
def y1A:Code:=(f57.body).getD .skip
def y1B:Env:=zkw TT [] []
theorem yZN:FrOk prog ⟨y1B,21,fun _=>none⟩ y1A:=zkA mixed yc trivial
abbrev yI2:List Par:= [.rd tYs,.rd tI]
abbrev yI3:List OT:= [⟨false,tI,.fz⟩]
def ylC (a0:List Int) (a1:Int):Option (zaY yI3×zak yI2) :=bif(ltb a1 (a0.length:Int))then bif(inb a1 a0.length)then some (((i64.wrap (nth a0 a1 0)),()),()) else none else some ((((i64.wrap ((i64.wrap (a1*31))+(i64.wrap ((a0.length:Int)*7)))).tmod 256),()),())
theorem y0D:ConOk prog 57 ⟨yI2,yI3,fun x=>ylC x.1 x.2.1⟩:=zkI (yZN) func57 ntmps57.symm fun x=>by kernel_rfl
def yNv:Con:=⟨yI2,yI3,fun x=>ylC x.1 x.2.1⟩
theorem y1p:ConOk prog 57 yNv:=y0D
def atV (a0:List Int) (i:Int):Int:=bif ltb i (a0.length:Int)then nth a0 i 0 else(i*31+(a0.length:Int)*7).tmod 256
theorem y21 {a0:List Int} {i:Int} (hb:a0.length≤140737488355328) (hx: ∀x∈a0,0≤x∧x≤255) (i0:0≤i) (i1:i≤1000):ylC a0 i=some ((atV a0 i,()),())∧0≤atV a0 i∧atV a0 i≤255:=by
 unfold ylC atV;by_cases h:i<(a0.length:Int)
 ·have hi:inb i a0.length=true:=zj6.2 ⟨i0,h⟩
  have hr:=ywx (P:=fun x:Int=>0≤x∧x≤255) (d:=0) hi hx;rw[zky h,hi,wq (nth a0 i 0) (by omega) (by omega)];exact⟨rfl,hr⟩
 ·rw[zk3 (by omega),cond_false,cond_false,wq (i*31) (by omega) (by omega),wq ((a0.length:Int)*7) (by omega) (by omega),wq (i*31+(a0.length:Int)*7) (by omega) (by omega)]
  refine⟨rfl,Int.tmod_nonneg _ (by omega),?_⟩;have:=Int.tmod_lt_of_pos (i*31+(a0.length:Int)*7) (show(0:Int)<256 by omega);omega
theorem y1b {a0:List Int} (h:Ty.Ok (.sl (.int .u8)) a0): ∀x∈a0,0≤x∧x≤255:=fun x hx=>h.2 x hx
theorem y2p {k:Int} {V:Int→Int→Int} {a:dA} {s:Int} {d:List Int} (h:Ix k V a) (hk:k<59990) (hs:yG a.2.1 s=true) (hl:(d.length:Int)=a.2.1.1-1) (hd:d.all isW=true):yw a s d=0:=by
 have h1:=yM.1 hs;have hg:=yj.1 h1.1;have:=h.xg;have:=h.xs;unfold yw;simp only[ycy,yfv,yb6,yp4 h,hd,show a.2.2.2.2.2.2.2.2.2.2.1=false from h.xu,h.xb,wq (a.2.1.1-1) (by omega) (by omega),wq (a.2.1.2-1) (by omega) (by omega),hl,bne_self_eq_false,zk2 h1.2.1,zk2 h1.2.2,zk1 (show a.2.2.2.2.2.1<60000 by omega),zk1 (show a.2.2.2.2.2.2.2.1<59990 by omega)];rfl
theorem y2N {N p i:Int} (h:3≤N∧N≤5) (hp:0≤p∧p≤N-1) (hi:0≤i∧i≤N-2):(p+1+i).tmod N≠p∧((p+1+i).tmod N-p-1+N).tmod N=i:=by
 have e1:(p+1+i).tmod N=(p+1+i) % N:=Int.tmod_eq_emod_of_nonneg (by omega);rw[e1];have h0:0≤(p+1+i) % N∧(p+1+i) % N<N:=⟨Int.emod_nonneg _ (by omega),Int.emod_lt_of_pos _ (by omega)⟩;rw[Int.tmod_eq_emod_of_nonneg (by omega)];have:N=3∨N=4∨N=5:=by omega
 rcases this with rfl | rfl | rfl<;>omega
theorem y1I {g:dG} {s i:Int} (hs:yG g s=true) (h0:0≤i) (h1:i≤g.1-2):yaI g s i=(yg g s+1+i).tmod g.1:=by
 unfold yaI;rw[hs,zk2 h0,zk2 h1]; rfl
theorem y1a {V:Int→Int→Int} {g:dG} {s:Int} {d:List Int} (hs:yG g s=true) (hl:(d.length:Int)=g.1-1):ycZ (ywY V g s d) g s=d:=by
 have hg:=yj.1 (yM.1 hs).1;have hp:=yiG hs;refine List.ext_getElem (by rw[yw3]; omega) fun i h1 h2=> ?_
 rw[yw3]at h1;have hdi:=yK0 hs (show(0:Int)≤(i:Int)by omega) (show(i:Int)≤g.1-2 by omega);have e:(ycZ (ywY V g s d) g s)[i]'(by rw[yw3]; exact h1)=nth (ydJ (ywY V g s d) g.1 s) (yaI g s i) 0:=by unfold ycZ; simp
 rw[e,yQR _ hdi.1 (by omega)];obtain⟨r1,r2⟩:=y2N (i:=(i:Int)) hg.1 hp (by omega);unfold ywY yb5;rw[beq_self_eq_true,cond_true,y1I hs (by omega) (by omega),show((yg g s+1+(i:Int)).tmod g.1==yg g s)=false from beq_eq_false_iff_ne.2 r1,cond_false,r2,zkS,zkJ h2]
theorem yXe {p:Nat→Bool} {L:Int}: ∀n:Nat,(∀i:Nat,i<n→(i:Int)≠L→p i=true)→yue p n≤bif decide (L<n)&&leb 0 L then 1 else 0
 | 0,_=>Nat.zero_le _
 | n+1,h=>by
  have ih:=yXe n (fun i hi hl=>h i (by omega) hl);rw[yuf];by_cases hL:(n:Int)=L
  ·subst hL
   have e:(decide (((n:Nat):Int)<((n:Nat):Int))&&leb 0 (n:Int))=false:=by simp
   rw[e]at ih;rw[decide_eq_true (show(n:Int)<((n+1:Nat):Int)by omega),zk2 (show(0:Int)≤n by omega)];cases p n<;>simp only[Bool.and_self,cond_true,cond_false]at * <;>omega
  ·rw[h n (by omega) hL,cond_true]
   have e:(decide (L<((n+1:Nat):Int))&&leb 0 L)=(decide (L<(n:Int))&&leb 0 L):=by
    rw[Bool.eq_iff_iff,Bool.and_eq_true,Bool.and_eq_true,decide_eq_true_eq,decide_eq_true_eq];constructor<;>rintro⟨h1,h2⟩<;>exact⟨by omega,h2⟩
   rw[e]; exact ih
theorem yNx {p q:Nat→Bool}: ∀n:Nat,(∀i,i<n→p i=q i)→yue p n=yue q n
 | 0,_=>rfl
 | n+1,h=>by rw[yuf,yuf,h n (by omega),yNx n (fun i hi=>h i (by omega))]
theorem y1j {k:Int} {V:Int→Int→Int} {a:dA} {i s:Int} (h:Ix k V a) (i0:0≤i) (i1:i<a.2.1.1) (hl:i≠a.2.2.2.1):yP a.2.2.2.1 a.2.2.2.2.1 i s (yl a i)=true:=by
 obtain⟨_,_,d3⟩:=yoB h.xk i0 i1;rw[h.xb]at d3;unfold yP;rw[show(i !=a.2.2.2.1)=true from bne_iff_ne.2 hl];cases hf:(yl a i).2.2.1
 ·rfl
 ·rcases d3 hf with e | e
  ·exact absurd e hl
  ·cases e
theorem y1y {k:Int} {V:Int→Int→Int} {a:dA} {s:Int} {d:List Int} (h:Ix k V a) (hs:yG a.2.1 s=true) (hd:d.all isW=true) (hq:a.2.2.2.2.2.1<60000) (hk:k+1≤60000) (hu:ya (yE a s d).2=false):yaF (yE a s d).2 s<2:=by
 have h1:=yM.1 hs;unfold yaF;rw[yyt]
 have:=yXe (p:=fun(i:Nat)=>yad (yE a s d).2 s i) (L:=a.2.2.2.1) a.2.1.1.toNat (fun i hi hl=>by
  rw[yXq h hs hd hq hk hu (by omega) (by omega) h1.2.1 (by omega),beq_self_eq_true]
  exact y1j h (by omega) (by omega) hl)
 have h2:(bif decide (a.2.2.2.1<((a.2.1.1.toNat:Nat):Int))&&leb 0 a.2.2.2.1 then 1 else 0)≤1:=by cases(decide (a.2.2.2.1<((a.2.1.1.toNat:Nat):Int))&&leb 0 a.2.2.2.1)<;>decide
 omega
theorem y0L {k:Int} {V:Int→Int→Int} {a:dA} {s t:Int} {d:List Int} (h:Ix k V a) (hs:yG a.2.1 s=true) (hd:d.all isW=true) (hq:a.2.2.2.2.2.1<60000) (hk:k+1≤60000) (hu:ya (yE a s d).2=false) (t0:0≤t) (t1:t<a.2.1.2) (hts:t≠s):yaF (yE a s d).2 t=yaF a t:=by
 unfold yaF;rw[yyt];exact yNx _ (fun i hi=>by rw[yXq h hs hd hq hk hu (by omega) (by omega) t0 t1,show(t==s)=false from beq_eq_false_iff_ne.2 hts]; rfl)
theorem yZG {V:Int→Int→Int} {g:dG} {s t:Int} {d:List Int} (hts:t≠s):ycZ (ywY V g s d) g t=ycZ V g t:=by
 unfold ycZ ydJ ywY;rw[show(t==s)=false from beq_eq_false_iff_ne.2 hts]; rfl
theorem y0Q {f:Nat→List Int} {c:Nat} (hc:0<c) (h: ∀i,(f i).length=c): ∀n,((List.range n).flatMap f).length=c*n∧ ∀b:Nat,b<c*n→nth ((List.range n).flatMap f) b 0=nth (f (b / c)) ((b % c:Nat):Int) 0
 | 0=>⟨by simp,fun b hb=>by simp at hb⟩
 | n+1=>by
  obtain⟨h1,h2⟩:=y0Q hc h n
  have e:(List.range (n+1)).flatMap f=(List.range n).flatMap f++f n:=by
   rw[List.range_succ,List.flatMap_append]; simp
  rw[e];refine⟨by rw[List.length_append,h1,h n,Nat.mul_succ],fun b hb=> ?_⟩;rw[zkS,List.getD_eq_getElem?_getD];by_cases hlt:b<c*n
  ·rw[List.getElem?_append_left (by rw[h1]; exact hlt),← List.getD_eq_getElem?_getD,← zkS,h2 b hlt]
  ·rw[Nat.mul_succ]at hb
   have hd:b / c=n:=by
    rw[Nat.div_eq_of_lt_le]
    ·rw[Nat.mul_comm]; omega
    ·rw[Nat.mul_comm,Nat.mul_succ]; omega
   have hm:b % c=b-c*n:=by
    have:=Nat.div_add_mod b c;rw[hd]at this; omega
   rw[List.getElem?_append_right (by rw[h1]; omega),h1,hd,hm,zkS,List.getD_eq_getElem?_getD]
def yVj (V:Int→Int→Int) (g:dG):List Int:=(List.range g.2.toNat).flatMap (fun(s:Nat)=>ycZ V g s)
theorem y24 {V:Int→Int→Int} {g:dG} (hg:ye g=true):((yVj V g).length:Int)=yd g∧ ∀b:Nat,(b:Int)<yd g→yax g b=true∧(0≤yp g b∧yp g b<g.2)∧(0≤yC g b∧yC g b<g.1-1)∧nth (yVj V g) b 0=nth (ycZ V g (yp g b)) (yC g b) 0:=by
 have h1:=yj.1 hg;obtain⟨f1,f2⟩:=y0Q (f:=fun(s:Nat)=>ycZ V g s) (c:=(g.1-1).toNat) (by omega) (fun i=>yw3 V g i) g.2.toNat
 have hB:yd g=(((g.1-1).toNat*g.2.toNat:Nat):Int):=by
  rw[ykg hg,Int.natCast_mul,Int.mul_comm,show(((g.1-1).toNat:Nat):Int)=g.1-1 by omega,show((g.2.toNat:Nat):Int)=g.2 by omega]
 refine⟨by rw[hB]; unfold yVj; rw[f1],fun b hb=> ?_⟩
 have hok:yax g b=true:=by
  unfold yax;rw[zk2 (show(0:Int)≤b by omega),zk2 (show(b:Int)≤yd g-1 by omega)]; rfl
 obtain⟨_,b1,b2⟩:=ye1 hok
 have e1:yp g b=((b / (g.1-1).toNat:Nat):Int):=by
  unfold yp;rw[hok,cond_true,Int.tdiv_eq_ediv_of_nonneg (by omega),Int.natCast_ediv,show(((g.1-1).toNat:Nat):Int)=g.1-1 by omega]
 have e2:yC g b=((b % (g.1-1).toNat:Nat):Int):=by
  unfold yC;rw[hok,cond_true,Int.tmod_eq_emod_of_nonneg (by omega),Int.natCast_emod,show(((g.1-1).toNat:Nat):Int)=g.1-1 by omega]
 have e3:yp g b=(b:Int).tdiv (g.1-1):=by unfold yp; rw[hok]; rfl
 have e4:yC g b=(b:Int).tmod (g.1-1):=by unfold yC; rw[hok]; rfl
 refine⟨hok,by rw[e3]; omega,by rw[e4]; omega,?_⟩;have hlt:(b:Int)<(((g.1-1).toNat*g.2.toNat:Nat):Int):=by omega
 have:=f2 b (by omega);unfold yVj;rw[this,e1,e2]
theorem y1N {K s:Int} {V:Int→Int→Int} {d:List Int} {tl:List dW} {a:dA} (hw:Wk K a) (h:Ix K V a) (hk:K+1≤59990) (hd:a.2.2.2.2.2.2.2.2.1=(s,d)::tl) :
  (yB a s).1=0∧Wk (K+2) (yB a s).2∧(∃V',Ix (K+2) V' (yB a s).2)∧(yB a s).2.2.2.2.2.2.2.2.2.1=tl∧(yB a s).2.2.1=a.2.1∧ ∀t,0≤t→t<a.2.1.2→ym (yB a s).2 t=ym a t:=by
 have hdi:=ye2.1 h.xc.2.2.1;rw[hd]at hdi;obtain⟨⟨s0,s1⟩,dl,dw⟩:=hdi.1 (s,d) List.mem_cons_self;have hso:yG a.2.1 s=true:=yO1 h s0 (by omega);have hq:a.2.2.2.2.2.1<60000:=by have:=h.xs; omega
 have hc:=y2p h (by omega) hso dl dw;obtain⟨w1,w2⟩:=y0n s d hw hq (by omega);have hu:ya (yE a s d).2=false:=w1.2.2.1.1;obtain⟨i1,_⟩:=yO2 h hso dl dw hq (by omega) hu;have wl:=y1y h hso dw hq (by omega) hu;have wl2:=fun t t0 t1 ht=>y0L (t:=t) h hso dw hq (by omega) hu t0 t1 ht
 have wg:=yyt a s d;have hent:yi a.2.2.2.2.2.2.2.2.1 s=0:=by rw[hd]; exact yHh (e:=(s,d))
 have hD:(nth a.2.2.2.2.2.2.2.2.1 (yi a.2.2.2.2.2.2.2.2.1 s) (0,[])).2=d:=by rw[hent,hd]; rfl
 have e:yB a s=(0,yav (yE a s d).2 tl):=by
  unfold yB;rw[hD,hent,hc,w2];show((0:Int),yav (yE a s d).2 (yEU a.2.2.2.2.2.2.2.2.1 (0:Int).toNat))=_;rw[hd]; rfl
 rw[e];have htl:yaq a.2.1 tl=true:=ye2.2 ⟨fun x hx=>hdi.1 x (List.mem_cons_of_mem _ hx),(List.pairwise_cons.1 hdi.2).2⟩;have hW:Wk (K+2) (yav (yE a s d).2 tl):=ydg (yw8 w1 (by rw[wg]; exact htl)) (by omega);have hI:Ix (K+2) (ywY V a.2.1 s d) (yav (yE a s d).2 tl):=yw5 i1 (by rw[wg]; exact htl);generalize yE a s d=W at hW hI wl wl2 wg;refine⟨rfl,hW,⟨_,hI⟩,rfl,wg,fun t t0 t1=> ?_⟩;have gI:(yav W.2 tl).2.1=a.2.1:=wg;have lI:yaF (yav W.2 tl) t=yaF W.2 t:=rfl;have dI:=yDh hI (s:=t) t0 (by rw[gI]; exact t1);have dA:=yDh h t0 t1;rw[gI,lI]at dI;have bI:(yav W.2 tl).2.2.2.2.2.2.2.2.2.2.2=false:=hI.xb
 have nI:ym (yav W.2 tl) t=bif leb 0 (yi tl t)then((nth tl (yi tl t) (0,[])).2,true)else ykK (yav W.2 tl) t:=by
  show(bif leb 0 (yi tl t)then((nth tl (yi tl t) (0,[])).2,true)else bif(yav W.2 tl).2.2.2.2.2.2.2.2.2.2.2 then([],false)else ykK (yav W.2 tl) t)=_;rw[bI]; rfl
 rw[nI,dI];unfold ym;rw[hd,h.xb,cond_false,dA];by_cases hts:t=s
 ·subst hts
  have h1:=yRQ hdi.2 (x:=(t,d)) List.mem_cons_self
  have h2:leb 0 (yi tl t)=false:=yZK fun x hx e=>by
   have:=(List.pairwise_cons.1 hdi.2).1 x hx;simp only at this;omega
  rw[h2,cond_false,h1.1,h1.2,decide_eq_true wl,y1a hso dl]; rfl
 ·obtain⟨h1,h2⟩:=yZL (l:=(s,d)::tl) (m:=tl) hdi.2 (List.pairwise_cons.1 hdi.2).2 (t:=t) (fun x hx=>⟨List.mem_cons_of_mem _,fun hm=>by
   rcases List.mem_cons.1 hm with rfl | hm
   ·exact absurd hx (fun e=>hts e.symm)
   ·exact hm⟩)
  rw[h1,wl2 t t0 t1 hts,yZG hts];cases h3:leb 0 (yi ((s,d)::tl) t)
  ·rfl
  ·rw[h2 h3]
theorem yZM: ∀(n i:Nat) (K:Int) (V:Int→Int→Int) (a:dA),Wk K a→Ix K V a→a.2.2.2.2.2.2.2.2.1.length=n→K+2*n≤59989 →
  (goE yge (fun b=>((0:Int),b)) n i a).1=0∧(∃V',Ix (K+2*n) V' (goE yge (fun b=>((0:Int),b)) n i a).2)∧(goE yge (fun b=>((0:Int),b)) n i a).2.2.2.2.2.2.2.2.2.1= []∧(goE yge (fun b=>((0:Int),b)) n i a).2.2.1=a.2.1∧ ∀t,0≤t→t<a.2.1.2→ym (goE yge (fun b=>((0:Int),b)) n i a).2 t=ym a t
 | 0,i,K,V,a,hw,h,hl,hk=>⟨rfl,⟨V,yc1 h (by omega)⟩,List.length_eq_zero_iff.1 hl,rfl,fun _ _ _=>rfl⟩
 | n+1,i,K,V,a,hw,h,hl,hk=>by
  match hd:a.2.2.2.2.2.2.2.2.1,hl with
  | [],hl=>cases hl
  | (s,d)::tl,hl =>
   obtain⟨f1,f2,⟨V1,f3⟩,f4,f5,f6⟩:=y1N hw h (by omega) hd;obtain⟨g1,⟨V2,g2⟩,g3,g4,g5⟩:=yZM n (i+1) (K+2) V1 (yB a s).2 f2 f3 (by rw[f4]; simpa using hl) (by omega)
   have e:goE yge (fun b=>((0:Int),b)) (n+1) i a=goE yge (fun b=>((0:Int),b)) n (i+1) (yB a s).2:=by
    have hn:(nth a.2.2.2.2.2.2.2.2.1 0 (0,[])).1=s:=by rw[hd]; rfl
    have hu:yge i a= .inl (yB a s).2:=by
     unfold yge;rw[hn,f1]; rfl
    conv=>lhs; unfold goE
    rw[hu]
   rw[e];refine⟨g1,⟨V2,yc1 g2 (by omega)⟩,g3,g4.trans f5,fun t t0 t1=> ?_⟩;rw[g5 t t0 (by rw[f5]; exact t1),f6 t t0 t1]
theorem yVl {K:Int} {V:Int→Int→Int} {a:dA} (h:Ix K V a) (hd:a.2.2.2.2.2.2.2.2.1= []):yr3 a=ygU a:=by
 have hg:=yj.1 h.xc.1;have hB:=yoP a.2.1
 have hnow: ∀t,0≤t→t<a.2.1.2→ym a t=bif decide (yaF a t<2)then(ycZ V a.2.1 t,true)else([],false):=fun t t0 t1=>by
  unfold ym;rw[hd,h.xb,yDh h t0 t1]; rfl
 obtain⟨lv,av⟩:=y24 (V:=V) h.xc.1
 have hget: ∀b:Nat,(b:Int)<yd a.2.1→yS a b=bif decide (yaF a (yp a.2.1 b)<2)then(nth (yVj V a.2.1) b 0,0)else(0,5):=fun b hb=>by
  obtain⟨b1,b2,b3,b4⟩:=av b hb;unfold yS;rw[ywv h,b1,hnow _ b2.1 b2.2,b4];cases decide (yaF a (yp a.2.1 b)<2)<;>rfl
 by_cases hf:y3x a
 ·have hall:(List.range (yd a.2.1).toNat).all (fun(b:Nat)=> !((yS a b).2 !=0))=true:=by
   rw[List.all_eq_true];intro b hb;have hb:=List.mem_range.1 hb;obtain⟨_,b2,_,_⟩:=av b (by omega);rw[hget b (by omega),decide_eq_true (hf _ b2.1 b2.2)]; rfl
  rw[yZP h hf];unfold ygU;rw[hall,cond_true];show yVj V a.2.1=_;refine List.ext_getElem (by rw[List.length_map,List.length_range]; omega) fun b h1 h2=> ?_
  rw[List.length_map,List.length_range]at h2;obtain⟨_,b2,_,_⟩:=av b (by omega);rw[List.getElem_map,List.getElem_range,hget b (by omega),decide_eq_true (hf _ b2.1 b2.2),cond_true];rw[zkS,zkJ h1]
 ·have hx: ∃t,0≤t∧t<a.2.1.2∧ ¬yaF a t<2:=Classical.byContradiction fun hn=>hf fun s s0 s1=>Classical.byContradiction fun h2=>hn ⟨s,s0,s1,h2⟩
  obtain⟨t,t0,t1,t2⟩:=hx
  have hdu:yr3 a= []:=by
   rw[ySD h];cases hc:(List.range a.2.1.2.toNat).all (fun(s:Nat)=>decide (yaF a s<2))
   ·rfl
   ·rw[List.all_eq_true]at hc
    have:=of_decide_eq_true (hc t.toNat (List.mem_range.2 (by omega)));rw[Int.toNat_of_nonneg t0]at this;exact absurd this t2
  have hbt:0≤t*(a.2.1.1-1)∧t*(a.2.1.1-1)<yd a.2.1:=by
   rw[ykg h.xc.1];refine⟨Int.mul_nonneg t0 (by omega),Int.mul_lt_mul_of_pos_right t1 (by omega)⟩
  have hst:yp a.2.1 (t*(a.2.1.1-1))=t:=by
   unfold yp yax;rw[zk2 hbt.1,zk2 (show t*(a.2.1.1-1)≤yd a.2.1-1 by omega),Int.mul_tdiv_cancel _ (by omega)]; rfl
  obtain⟨b,hb⟩: ∃b:Nat,(b:Int)=t*(a.2.1.1-1):=⟨(t*(a.2.1.1-1)).toNat,by omega⟩
  have hco:ygU a= []:=by
   unfold ygU;cases hc:(List.range (yd a.2.1).toNat).all (fun(b:Nat)=> !((yS a b).2 !=0))
   ·rfl
   ·rw[List.all_eq_true]at hc
    have:=hc b (List.mem_range.2 (by omega));rw[hget b (by omega),hb,hst,decide_eq_false t2]at this;cases this
  rw[hdu,hco]
def yep:Code:=(f133.body).getD .skip
def yjm:Env:=zkw TT [(158,yaY)] []
theorem yLQ:FrOk prog ⟨yjm,49,fun _=>none⟩ yep:=zkA mixed yc ⟨ycQ,trivial⟩
def yBo:Nat→Option Seg:=fun _=>none
def ybU:Shape:=⟨[(1,false,[.ptr 0 0]),(2,false,[.ptr 64 0]),(3,false,[.ptr 4480 0]),(15,false,[.br tL]),(16,false,[.int .i64]),(17,false,[.int .i64])],[(0,[.br tL,.br tW,.bool,.br tI]),(64,[.nil,.nil,.bool,.nil]),(4480,[.at 800000001,.nil,.bool,.at 800000000])],[(800000001,tL,(.ow .fz)),(800000000,tI,.fz)]⟩
def yfP:Shape:=⟨[(1,false,[.ptr 0 0]),(2,false,[.ptr 64 0]),(3,false,[.ptr 4480 0]),(15,false,[.br tL]),(16,false,[.int .i64]),(17,false,[.ci .i64 0])],[(0,[.br tL,.br tW,.bool,.br tI]),(64,[.nil,.nil,.bool,.nil]),(4480,[.at 800000001,.nil,.bool,.at 800000000])],[(800000001,tL,(.ow .fz)),(800000000,tI,.fz)]⟩
def yfD:Shape:=⟨[(1,false,[.ptr 0 0]),(2,false,[.ptr 64 0]),(3,false,[.ptr 4480 0])],[(0,[.br tL,.br tW,.bool,.br tI]),(64,[.nil,.nil,.bool,.nil]),(4480,[.at 800000000,.nil,.bool,.at 800000001])],[(800000000,tL,(.ow .fz)),(800000001,tI,.fz)]⟩
def yi6:Shape:=⟨[],[],[]⟩
abbrev ynB (v0:List (List Int)) (v1 v2:Int) (v3 v4 v5:dM):(ybU).X:=((((),()),((),()),((),()),(v0,()),(v1,()),(v2,()),()),((v3.1,v3.2.1,v3.2.2.1,v3.2.2.2,()),((),(),v4.2.2.1,(),()),((),(),v5.2.2.1,(),()),()),(v5.1,v5.2.2.2,()))
abbrev yJ8 (v0:List (List Int)) (v1:Int) (v2 v3 v4:dM):(yfP).X:=((((),()),((),()),((),()),(v0,()),(v1,()),((),()),()),((v2.1,v2.2.1,v2.2.2.1,v2.2.2.2,()),((),(),v3.2.2.1,(),()),((),(),v4.2.2.1,(),()),()),(v4.1,v4.2.2.2,()))
abbrev yx5 (v0 v1 v2:dM):(yfD).X:=((((),()),((),()),((),()),()),((v0.1,v0.2.1,v0.2.2.1,v0.2.2.2,()),((),(),v1.2.2.1,(),()),((),(),v2.2.2.1,(),()),()),(v2.1,v2.2.2.2,()))
def ynY (v0:List (List Int)) (v1 v2:Int) (v3:List (List Int)) (v4:List dW) (v5:Bool) (v6:List Int) (v7 v8:Bool) (v9:List (List Int)) (v10:List Int):Option ((ybU).X ⊕ ((yfD).X ⊕ (yi6).X)) :=bif(ltb v2 v1)then bif(inb v2 v0.length)then let r4:=yr (nth v0 v2 []);bif(zkl v9.length ([r4]:List (List Int)).length 24)then some (.inl ((((),()),((),()),((),()),(v0,()),(v1,()),((i64.wrap (v2+1)),()),()),((v3,v4,v5,v6,()),((),(),v7,(),()),((),(),v8,(),()),()),((v9++([r4]:List (List Int))),v10,()))) else none else none else some (.inr (.inl ((((),()),((),()),((),()),()),((v3,v4,v5,v6,()),((),(),v7,(),()),((),(),v8,(),()),()),(v9,v10,()))))
def ych (x:(ybU).X):=ynY x.1.2.2.2.1.1 x.1.2.2.2.2.1.1 x.1.2.2.2.2.2.1.1 x.2.1.1.1 x.2.1.1.2.1 x.2.1.1.2.2.1 x.2.1.1.2.2.2.1 x.2.1.2.1.2.2.1 x.2.1.2.2.1.2.2.1 x.2.2.1 x.2.2.2.1
def yxz (x:(yfP).X):(ybU).X:=((((),()),((),()),((),()),(x.1.2.2.2.1.1,()),(x.1.2.2.2.2.1.1,()),(0,()),()),((x.2.1.1.1,x.2.1.1.2.1,x.2.1.1.2.2.1,x.2.1.1.2.2.2.1,()),((),(),x.2.1.2.1.2.2.1,(),()),((),(),x.2.1.2.2.1.2.2.1,(),()),()),(x.2.2.1,x.2.2.2.1,()))
def yz3:Code:=(zd7 yep 64 116).getD .skip
theorem yLx:zd7 yep 64 29=some (.block 0 (.loop yz3)):=by kernel_rfl
theorem yNk (x:(ybU).X):zhu ⟨yjm,49,yBo⟩ 0 yz3 116 ybU yfD yi6 x=ych x:=by kernel_rfl
def yxQ (x:(yfP).X):Nat:=18446744073709551616
def yoW (x:(yfP).X):Option ((yfD).X ⊕ (yi6).X):=zF ych (yxQ x) (yxz x)
def yyj:Seg:=⟨yfP,yfD,yi6,yoW⟩
def yqI:Nat→Option Seg:=fun q=>bif Nat.beq q 29 then some yyj else yBo q
theorem yLR:FrOk prog ⟨yjm,49,yqI⟩ yep:=(yLQ).loop (sg:=yyj) ybU yxz (by decide) yLx ych yxQ (by decide) (fun _=>rfl) (fun x r _ h=>h) yNk
def ybV:Shape:=⟨[(2,false,[.ptr 64 0]),(3,false,[.ptr 4480 0]),(30,false,[.br tW]),(31,false,[.int .i64]),(32,false,[.int .i64])],[(64,[.nil,.nil,.bool,.nil]),(4480,[.at 800000000,.at 800000002,.bool,.at 800000001])],[(800000000,tL,(.ow .fz)),(800000002,tW,(.pr .fz (.ow .fz))),(800000001,tI,.fz)]⟩
def yfQ:Shape:=⟨[(2,false,[.ptr 64 0]),(3,false,[.ptr 4480 0]),(30,false,[.br tW]),(31,false,[.int .i64]),(32,false,[.ci .i64 0])],[(64,[.nil,.nil,.bool,.nil]),(4480,[.at 800000000,.at 800000002,.bool,.at 800000001])],[(800000000,tL,(.ow .fz)),(800000002,tW,(.pr .fz (.ow .fz))),(800000001,tI,.fz)]⟩
def yfE:Shape:=⟨[(2,false,[.ptr 64 0]),(3,false,[.ptr 4480 0])],[(64,[.nil,.nil,.bool,.nil]),(4480,[.at 800000000,.at 800000001,.bool,.at 800000002])],[(800000000,tL,(.ow .fz)),(800000001,tW,(.pr .fz (.ow .fz))),(800000002,tI,.fz)]⟩
def yi7:Shape:=⟨[],[],[]⟩
abbrev ynC (v0:List dW) (v1 v2:Int) (v3 v4:dM):(ybV).X:=((((),()),((),()),(v0,()),(v1,()),(v2,()),()),(((),(),v3.2.2.1,(),()),((),(),v4.2.2.1,(),()),()),(v4.1,v4.2.1,v4.2.2.2,()))
abbrev yJ9 (v0:List dW) (v1:Int) (v2 v3:dM):(yfQ).X:=((((),()),((),()),(v0,()),(v1,()),((),()),()),(((),(),v2.2.2.1,(),()),((),(),v3.2.2.1,(),()),()),(v3.1,v3.2.1,v3.2.2.2,()))
abbrev yx6 (v0 v1:dM):(yfE).X:=((((),()),((),()),()),(((),(),v0.2.2.1,(),()),((),(),v1.2.2.1,(),()),()),(v1.1,v1.2.1,v1.2.2.2,()))
def ynZ (v0:List dW) (v1 v2:Int) (v3 v4:Bool) (v5:List (List Int)) (v6:List dW) (v7:List Int):Option ((ybV).X ⊕ ((yfE).X ⊕ (yi7).X)) :=bif(ltb v2 v1)then bif(inb v2 v0.length)then let r8:=yr ((nth v0 v2 (0,[])).2);bif(zkl v6.length ([((nth v0 v2 (0,[])).1,r8)]:List dW).length 32)then some (.inl ((((),()),((),()),(v0,()),(v1,()),((i64.wrap (v2+1)),()),()),(((),(),v3,(),()),((),(),v4,(),()),()),(v5,(v6++([((nth v0 v2 (0,[])).1,r8)]:List dW)),v7,()))) else none else none else some (.inr (.inl ((((),()),((),()),()),(((),(),v3,(),()),((),(),v4,(),()),()),(v5,v6,v7,()))))
def yci (x:(ybV).X):=ynZ x.1.2.2.1.1 x.1.2.2.2.1.1 x.1.2.2.2.2.1.1 x.2.1.1.2.2.1 x.2.1.2.1.2.2.1 x.2.2.1 x.2.2.2.1 x.2.2.2.2.1
def yxA (x:(yfQ).X):(ybV).X:=((((),()),((),()),(x.1.2.2.1.1,()),(x.1.2.2.2.1.1,()),(0,()),()),(((),(),x.2.1.1.2.2.1,(),()),((),(),x.2.1.2.1.2.2.1,(),()),()),(x.2.2.1,x.2.2.2.1,x.2.2.2.2.1,()))
def yz4:Code:=(zd7 yep 64 244).getD .skip
theorem yLy:zd7 yep 64 61=some (.block 2 (.loop yz4)):=by kernel_rfl
theorem yNl (x:(ybV).X):zhu ⟨yjm,49,yqI⟩ 2 yz4 244 ybV yfE yi7 x=yci x:=by kernel_rfl
def yxR (x:(yfQ).X):Nat:=18446744073709551616
def yoX (x:(yfQ).X):Option ((yfE).X ⊕ (yi7).X):=zF yci (yxR x) (yxA x)
def yyk:Seg:=⟨yfQ,yfE,yi7,yoX⟩
def yNM:Nat→Option Seg:=fun q=>bif Nat.beq q 61 then some yyk else yqI q
theorem yLS:FrOk prog ⟨yjm,49,yNM⟩ yep:=(yLR).loop (sg:=yyk) ybV yxA (by decide) yLy yci yxR (by decide) (fun _=>rfl) (fun x r _ h=>h) yNl
abbrev yom:List Par:= [.rd tM]
abbrev yv8:List OT:= [⟨false,tM,(.pr (.ow (.ow .fz)) (.pr (.ow (.pr .fz (.ow .fz))) (.pr .fz (.ow .fz))))⟩]
def yrw (a0:dM):Option (zaY yv8×zak yom) :=let r1:=yr a0.2.2.2;zkt (yoW ((((),()),((),()),((),()),(a0.1,()),((a0.1.length:Int),()),((),()),()),((a0.1,a0.2.1,a0.2.2.1,a0.2.2.2,()),((),(),false,(),()),((),(),a0.2.2.1,(),()),()),([],r1,()))) (fun y4 =>zkt (yoX ((((),()),((),()),(y4.2.1.1.2.1,()),((y4.2.1.1.2.1.length:Int),()),((),()),()),(((),(),y4.2.1.2.1.2.2.1,(),()),((),(),y4.2.1.2.2.1.2.2.1,(),()),()),(y4.2.2.1,[],y4.2.2.2.1,()))) (fun y8 =>some (((y8.2.2.1,y8.2.2.2.1,y8.2.1.2.1.2.2.1,y8.2.2.2.2.1),()),())) (fun y8 =>none)) (fun y4 =>none)
theorem yP2:ConOk prog 133 ⟨yom,yv8,fun x=>yrw x.1⟩:=zkI (yLS) func133 ntmps133.symm fun x=>by kernel_rfl
def ybE (a0:dM):dM:=a0
theorem ySU (a0:dM) (hk:zjx yom (a0,())):yrw a0=(fun n=>some ((n,()),())) (ybE a0):=by
 have hb1:a0.1.length*24≤2^47:=hk.1.1.1;have hb2:a0.2.1.length*32≤2^47:=hk.1.2.1.1
 have h1:yoW (yJ8 a0.1 a0.1.length a0 yh ([],[],a0.2.2.1,a0.2.2.2))=some (.inl (yx5 a0 yh (a0.1,[],a0.2.2.1,a0.2.2.2))):=by
  have:=zkx (step:=ych) a0.1 [] (fun i s=>ynB a0.1 a0.1.length i a0 yh (s,[],a0.2.2.1,a0.2.2.2)) (fun s x=>s++ [x]) (fun i s=>s.length=i) (fun s=> .inl (yx5 a0 yh (s,[],a0.2.2.1,a0.2.2.2))) (fun i s hi hs2=>⟨by
   simp only[ych,ynB,ynY,zky (show(i:Int)<a0.1.length by omega),cond_true,wq ((i:Int)+1) (by omega) (by omega),Int.natCast_add,Int.natCast_one,Int.toNat_natCast,zkR hi,zkS,yr]
   rw[zkF.2 (show(s.length+ [a0.1.getD i []].length)*24≤140737488355328 by simp only[List.length_cons,List.length_nil]; omega)]; rfl,by simp[hs2]⟩) (fun s _=>by simp only[ych,ynB,ynY,zk3 (Int.le_refl _),cond_false]) [] rfl 18446744073709551616 (by omega)
  rw[ywt]at this;exact this
 have h2:yoX (yJ9 a0.2.1 a0.2.1.length yh (a0.1,[],a0.2.2.1,a0.2.2.2))=some (.inl (yx6 yh a0)):=by
  have:=zkx (step:=yci) a0.2.1 (0,[]) (fun i s=>ynC a0.2.1 a0.2.1.length i yh (a0.1,s,a0.2.2.1,a0.2.2.2)) (fun s x=>s++ [x]) (fun i s=>s.length=i) (fun s=> .inl (yx6 yh (a0.1,s,a0.2.2.1,a0.2.2.2))) (fun i s hi hs2=>⟨by
   simp only[yci,ynC,ynZ,zky (show(i:Int)<a0.2.1.length by omega),cond_true,wq ((i:Int)+1) (by omega) (by omega),Int.natCast_add,Int.natCast_one,Int.toNat_natCast,zkR hi,zkS,yr,zkX]
   rw[zkF.2 (show(s.length+ [a0.2.1.getD i (0,[])].length)*32≤140737488355328 by simp only[List.length_cons,List.length_nil]; omega)]; rfl,by simp[hs2]⟩) (fun s _=>by simp only[yci,ynC,ynZ,zk3 (Int.le_refl _),cond_false]) [] rfl 18446744073709551616 (by omega)
  rw[ywt]at this;exact this
 unfold yrw ybE;simp only[yr,h1,zkN,h2]
def ykI:Con:=⟨yom,yv8,fun x=>(fun n=>some ((n,()),())) (ybE x.1)⟩
theorem yur:ConOk prog 133 ykI:=(yP2).mono (fun x r hk h=>(ySU x.1 hk).trans h)
def ymd:Code:=(f74.body).getD .skip
def ysF:Env:=zkw TT [(133,ykI)] []
theorem yJC:FrOk prog ⟨ysF,20,fun _=>none⟩ ymd:=zkA mixed yc ⟨yur,trivial⟩
def yzT:Nat→Option Seg:=fun _=>none
def ybr:Shape:=⟨[(3,false,[.at 800000000]),(7,false,[.br tM]),(8,false,[.int .i64]),(9,false,[.int .i64])],[],[(800000000,tM,(.pr (.ow (.ow .fz)) (.pr (.ow (.pr .fz (.ow .fz))) (.pr .fz (.ow .fz)))))]⟩
def yeV:Shape:=⟨[(3,false,[.at 800000000]),(7,false,[.br tM]),(8,false,[.int .i64]),(9,false,[.ci .i64 0])],[],[(800000000,tM,(.pr (.ow (.ow .fz)) (.pr (.ow (.pr .fz (.ow .fz))) (.pr .fz (.ow .fz)))))]⟩
def yeN:Shape:=⟨[(3,false,[.at 800000000])],[],[(800000000,tM,(.pr (.ow (.ow .fz)) (.pr (.ow (.pr .fz (.ow .fz))) (.pr .fz (.ow .fz)))))]⟩
def yij:Shape:=⟨[],[],[]⟩
abbrev ylP (v0:List dM) (v1 v2:Int) (v3:List dM):(ybr).X:=((((),()),(v0,()),(v1,()),(v2,()),()),(),(v3,()))
abbrev yIv (v0:List dM) (v1:Int) (v2:List dM):(yeV).X:=((((),()),(v0,()),(v1,()),((),()),()),(),(v2,()))
abbrev yIp (v0:List dM):(yeN).X:=((((),()),()),(),(v0,()))
def yl3 (v0:List dM) (v1 v2:Int) (v3:List dM):Option ((ybr).X ⊕ ((yeN).X ⊕ (yij).X)) :=bif(ltb v2 v1)then bif(inb v2 v0.length)then let r2:=ybE ((nth v0 v2 ([],[],false,[])).1,((nth v0 v2 ([],[],false,[])).2).1,(((nth v0 v2 ([],[],false,[])).2).2));bif(zkl v3.length ([r2]:List dM).length 80)then some (.inl ((((),()),(v0,()),(v1,()),((i64.wrap (v2+1)),()),()),(),((v3++([r2]:List dM)),()))) else none else none else some (.inr (.inl ((((),()),()),(),(v3,()))))
def ybK (x:(ybr).X):=yl3 x.1.2.1.1 x.1.2.2.1.1 x.1.2.2.2.1.1 x.2.2.1
def yu8 (x:(yeV).X):(ybr).X:=((((),()),(x.1.2.1.1,()),(x.1.2.2.1.1,()),(0,()),()),(),(x.2.2.1,()))
def yxk:Code:=(zd7 ymd 64 116).getD .skip
theorem yI9:zd7 ymd 64 29=some (.block 0 (.loop yxk)):=by kernel_rfl
theorem yKJ (x:(ybr).X):zhu ⟨ysF,20,yzT⟩ 0 yxk 116 ybr yeN yij x=ybK x:=by kernel_rfl
def yvh (x:(yeV).X):Nat:=18446744073709551616
def yne (x:(yeV).X):Option ((yeN).X ⊕ (yij).X):=zF ybK (yvh x) (yu8 x)
def yvy:Seg:=⟨yeV,yeN,yij,yne⟩
def yLj:Nat→Option Seg:=fun q=>bif Nat.beq q 29 then some yvy else yzT q
theorem yJD:FrOk prog ⟨ysF,20,yLj⟩ ymd:=(yJC).loop (sg:=yvy) ybr yu8 (by decide) yI9 ybK yvh (by decide) (fun _=>rfl) (fun x r _ h=>h) yKJ
abbrev ymt:List Par:= [.rd tMs]
abbrev ytr:List OT:= [⟨false,tMs,(.ow (.pr (.ow (.ow .fz)) (.pr (.ow (.pr .fz (.ow .fz))) (.pr .fz (.ow .fz)))))⟩]
def ypG (a0:List dM):Option (zaY ytr×zak ymt) :=zkt (yne ((((),()),(a0,()),((a0.length:Int),()),((),()),()),(),(([]:List dM),()))) (fun y2 =>some ((y2.2.2.1,()),())) (fun y2 =>none)
theorem yMW:ConOk prog 74 ⟨ymt,ytr,fun x=>ypG x.1⟩:=zkI (yJD) func74 ntmps74.symm fun x=>by kernel_rfl
def ymY (a0:List dM):List dM:=a0
theorem yPK (a0:List dM) (hk:zjx ymt (a0,())):ypG a0=(fun n=>some ((n,()),())) (ymY a0):=by
 have hb:a0.length*80≤2^47:=hk.1.1
 have h1:=zkx (step:=ybK) a0 yh (fun i s=>ylP a0 a0.length i s) (fun s x=>s++ [x]) (fun i s=>s.length=i) (fun s=> .inl (yIp s)) (fun i s hi hs=>⟨by
   simp only[ybK,ylP,yl3,zky (show(i:Int)<a0.length by omega),cond_true,wq ((i:Int)+1) (by omega) (by omega),Int.natCast_add,Int.natCast_one,Int.toNat_natCast,zkR hi,zkS,ybE,zkX]
   rw[zkF.2 (show(s.length+ [a0.getD i ([],[],false,[])].length)*80≤140737488355328 by simp only[List.length_cons,List.length_nil]; omega)]; rfl,by simp[hs]⟩) (fun s hs=>by simp only[ybK,ylP,yl3,zk3 (Int.le_refl _),cond_false]) [] rfl 18446744073709551616 (by omega)
 rw[ywt]at h1;unfold ypG ymY;rw[show yne (yIv a0 a0.length [])=_ from h1]; rfl
def yAk:Con:=⟨ymt,ytr,fun x=>(fun n=>some ((n,()),())) (ymY x.1)⟩
theorem yQw:ConOk prog 74 yAk:=(yMW).mono (fun x r hk h=>(yPK x.1 hk).trans h)
def yob:Code:=(f95.body).getD .skip
def yvI:Env:=zkw TT [(74,yAk),(158,yaY)] []
theorem yLO:FrOk prog ⟨yvI,31,fun _=>none⟩ yob:=zkA mixed yc ⟨yQw,ycQ,trivial⟩
def yBn:Nat→Option Seg:=fun _=>none
def ybT:Shape:=⟨[(1,false,[.ptr 0 0]),(2,false,[.ptr 64 0]),(3,false,[.at 800000000]),(8,false,[.br tW]),(9,false,[.int .i64]),(10,false,[.int .i64])],[(0,[.int .i64,.int .i64,.int .i64,.br tM,.int .i64,.int .i64,.int .i64,.int .i64,.int .i64,.br tW,.int .i64,.bool,.bool]),(64,[.int .i64,.int .i64,.int .i64,.nil,.int .i64,.int .i64,.int .i64,.int .i64,.int .i64,.nil,.int .i64,.bool,.bool])],[(800000000,tW,(.pr .fz (.ow .fz)))]⟩
def yfO:Shape:=⟨[(1,false,[.ptr 0 0]),(2,false,[.ptr 64 0]),(3,false,[.at 800000000]),(8,false,[.br tW]),(9,false,[.int .i64]),(10,false,[.ci .i64 0])],[(0,[.int .i64,.int .i64,.int .i64,.br tM,.int .i64,.int .i64,.int .i64,.int .i64,.int .i64,.br tW,.int .i64,.bool,.bool]),(64,[.int .i64,.int .i64,.int .i64,.nil,.int .i64,.int .i64,.int .i64,.int .i64,.int .i64,.nil,.int .i64,.bool,.bool])],[(800000000,tW,(.pr .fz (.ow .fz)))]⟩
def yfC:Shape:=⟨[(1,false,[.ptr 0 0]),(2,false,[.ptr 64 0]),(3,false,[.at 800000000])],[(0,[.int .i64,.int .i64,.int .i64,.br tM,.int .i64,.int .i64,.int .i64,.int .i64,.int .i64,.br tW,.int .i64,.bool,.bool]),(64,[.int .i64,.int .i64,.int .i64,.nil,.int .i64,.int .i64,.int .i64,.int .i64,.int .i64,.nil,.int .i64,.bool,.bool])],[(800000000,tW,(.pr .fz (.ow .fz)))]⟩
def yi5:Shape:=⟨[],[],[]⟩
abbrev ynA (v0:List dW) (v1 v2:Int) (v3 v4:dA) (v5:List dW):(ybT).X:=((((),()),((),()),((),()),(v0,()),(v1,()),(v2,()),()),((v3.1,v3.2.1.1,v3.2.1.2,v3.2.2.1,v3.2.2.2.1,v3.2.2.2.2.1,v3.2.2.2.2.2.1,v3.2.2.2.2.2.2.1,v3.2.2.2.2.2.2.2.1,v3.2.2.2.2.2.2.2.2.1,v3.2.2.2.2.2.2.2.2.2.1,v3.2.2.2.2.2.2.2.2.2.2.1,v3.2.2.2.2.2.2.2.2.2.2.2,()),(v4.1,v4.2.1.1,v4.2.1.2,(),v4.2.2.2.1,v4.2.2.2.2.1,v4.2.2.2.2.2.1,v4.2.2.2.2.2.2.1,v4.2.2.2.2.2.2.2.1,(),v4.2.2.2.2.2.2.2.2.2.1,v4.2.2.2.2.2.2.2.2.2.2.1,v4.2.2.2.2.2.2.2.2.2.2.2,()),()),(v5,()))
abbrev yJ7 (v0:List dW) (v1:Int) (v2 v3:dA) (v4:List dW):(yfO).X:=((((),()),((),()),((),()),(v0,()),(v1,()),((),()),()),((v2.1,v2.2.1.1,v2.2.1.2,v2.2.2.1,v2.2.2.2.1,v2.2.2.2.2.1,v2.2.2.2.2.2.1,v2.2.2.2.2.2.2.1,v2.2.2.2.2.2.2.2.1,v2.2.2.2.2.2.2.2.2.1,v2.2.2.2.2.2.2.2.2.2.1,v2.2.2.2.2.2.2.2.2.2.2.1,v2.2.2.2.2.2.2.2.2.2.2.2,()),(v3.1,v3.2.1.1,v3.2.1.2,(),v3.2.2.2.1,v3.2.2.2.2.1,v3.2.2.2.2.2.1,v3.2.2.2.2.2.2.1,v3.2.2.2.2.2.2.2.1,(),v3.2.2.2.2.2.2.2.2.2.1,v3.2.2.2.2.2.2.2.2.2.2.1,v3.2.2.2.2.2.2.2.2.2.2.2,()),()),(v4,()))
abbrev yJ0 (v0 v1:dA) (v2:List dW):(yfC).X:=((((),()),((),()),((),()),()),((v0.1,v0.2.1.1,v0.2.1.2,v0.2.2.1,v0.2.2.2.1,v0.2.2.2.2.1,v0.2.2.2.2.2.1,v0.2.2.2.2.2.2.1,v0.2.2.2.2.2.2.2.1,v0.2.2.2.2.2.2.2.2.1,v0.2.2.2.2.2.2.2.2.2.1,v0.2.2.2.2.2.2.2.2.2.2.1,v0.2.2.2.2.2.2.2.2.2.2.2,()),(v1.1,v1.2.1.1,v1.2.1.2,(),v1.2.2.2.1,v1.2.2.2.2.1,v1.2.2.2.2.2.1,v1.2.2.2.2.2.2.1,v1.2.2.2.2.2.2.2.1,(),v1.2.2.2.2.2.2.2.2.2.1,v1.2.2.2.2.2.2.2.2.2.2.1,v1.2.2.2.2.2.2.2.2.2.2.2,()),()),(v2,()))
def ynX (v0:List dW) (v1 v2 v3 v4 v5:Int) (v6:List dM) (v7 v8 v9 v10 v11:Int) (v12:List dW) (v13:Int) (v14 v15:Bool) (v16 v17 v18 v19 v20 v21 v22 v23 v24:Int) (v25 v26:Bool) (v27:List dW):Option ((ybT).X ⊕ ((yfC).X ⊕ (yi5).X)) :=bif(ltb v2 v1)then bif(inb v2 v0.length)then let r2:=yr ((nth v0 v2 (0,[])).2);bif(zkl v27.length ([((nth v0 v2 (0,[])).1,r2)]:List dW).length 32)then some (.inl ((((),()),((),()),((),()),(v0,()),(v1,()),((i64.wrap (v2+1)),()),()),((v3,v4,v5,v6,v7,v8,v9,v10,v11,v12,v13,v14,v15,()),(v16,v17,v18,(),v19,v20,v21,v22,v23,(),v24,v25,v26,()),()),((v27++([((nth v0 v2 (0,[])).1,r2)]:List dW)),()))) else none else none else some (.inr (.inl ((((),()),((),()),((),()),()),((v3,v4,v5,v6,v7,v8,v9,v10,v11,v12,v13,v14,v15,()),(v16,v17,v18,(),v19,v20,v21,v22,v23,(),v24,v25,v26,()),()),(v27,()))))
def ycg (x:(ybT).X):=ynX x.1.2.2.2.1.1 x.1.2.2.2.2.1.1 x.1.2.2.2.2.2.1.1 x.2.1.1.1 x.2.1.1.2.1 x.2.1.1.2.2.1 x.2.1.1.2.2.2.1 x.2.1.1.2.2.2.2.1 x.2.1.1.2.2.2.2.2.1 x.2.1.1.2.2.2.2.2.2.1 x.2.1.1.2.2.2.2.2.2.2.1 x.2.1.1.2.2.2.2.2.2.2.2.1 x.2.1.1.2.2.2.2.2.2.2.2.2.1 x.2.1.1.2.2.2.2.2.2.2.2.2.2.1 x.2.1.1.2.2.2.2.2.2.2.2.2.2.2.1 x.2.1.1.2.2.2.2.2.2.2.2.2.2.2.2.1 x.2.1.2.1.1 x.2.1.2.1.2.1 x.2.1.2.1.2.2.1 x.2.1.2.1.2.2.2.2.1 x.2.1.2.1.2.2.2.2.2.1 x.2.1.2.1.2.2.2.2.2.2.1 x.2.1.2.1.2.2.2.2.2.2.2.1 x.2.1.2.1.2.2.2.2.2.2.2.2.1 x.2.1.2.1.2.2.2.2.2.2.2.2.2.2.1 x.2.1.2.1.2.2.2.2.2.2.2.2.2.2.2.1 x.2.1.2.1.2.2.2.2.2.2.2.2.2.2.2.2.1 x.2.2.1
def yxy (x:(yfO).X):(ybT).X:=((((),()),((),()),((),()),(x.1.2.2.2.1.1,()),(x.1.2.2.2.2.1.1,()),(0,()),()),((x.2.1.1.1,x.2.1.1.2.1,x.2.1.1.2.2.1,x.2.1.1.2.2.2.1,x.2.1.1.2.2.2.2.1,x.2.1.1.2.2.2.2.2.1,x.2.1.1.2.2.2.2.2.2.1,x.2.1.1.2.2.2.2.2.2.2.1,x.2.1.1.2.2.2.2.2.2.2.2.1,x.2.1.1.2.2.2.2.2.2.2.2.2.1,x.2.1.1.2.2.2.2.2.2.2.2.2.2.1,x.2.1.1.2.2.2.2.2.2.2.2.2.2.2.1,x.2.1.1.2.2.2.2.2.2.2.2.2.2.2.2.1,()),(x.2.1.2.1.1,x.2.1.2.1.2.1,x.2.1.2.1.2.2.1,(),x.2.1.2.1.2.2.2.2.1,x.2.1.2.1.2.2.2.2.2.1,x.2.1.2.1.2.2.2.2.2.2.1,x.2.1.2.1.2.2.2.2.2.2.2.1,x.2.1.2.1.2.2.2.2.2.2.2.2.1,(),x.2.1.2.1.2.2.2.2.2.2.2.2.2.2.1,x.2.1.2.1.2.2.2.2.2.2.2.2.2.2.2.1,x.2.1.2.1.2.2.2.2.2.2.2.2.2.2.2.2.1,()),()),(x.2.2.1,()))
def yz2:Code:=(zd7 yob 64 116).getD .skip
theorem yLw:zd7 yob 64 29=some (.block 0 (.loop yz2)):=by kernel_rfl
theorem yNj (x:(ybT).X):zhu ⟨yvI,31,yBn⟩ 0 yz2 116 ybT yfC yi5 x=ycg x:=by kernel_rfl
def yxP (x:(yfO).X):Nat:=18446744073709551616
def yoV (x:(yfO).X):Option ((yfC).X ⊕ (yi5).X):=zF ycg (yxP x) (yxy x)
def yyi:Seg:=⟨yfO,yfC,yi5,yoV⟩
def yNL:Nat→Option Seg:=fun q=>bif Nat.beq q 29 then some yyi else yBn q
theorem yLP:FrOk prog ⟨yvI,31,yNL⟩ yob:=(yLO).loop (sg:=yyi) ybT yxy (by decide) yLw ycg yxP (by decide) (fun _=>rfl) (fun x r _ h=>h) yNj
abbrev yol:List Par:= [.rd tA]
abbrev yv7:List OT:= [⟨false,tA,(.pr .fz (.pr (.pr .fz .fz) (.pr (.ow (.pr (.ow (.ow .fz)) (.pr (.ow (.pr .fz (.ow .fz))) (.pr .fz (.ow .fz))))) (.pr .fz (.pr .fz (.pr .fz (.pr .fz (.pr .fz (.pr (.ow (.pr .fz (.ow .fz))) (.pr .fz (.pr .fz .fz)))))))))))⟩]
def yrv (a0:dA):Option (zaY yv7×zak yol) :=zkt (yoV ((((),()),((),()),((),()),(a0.2.2.2.2.2.2.2.2.1,()),((a0.2.2.2.2.2.2.2.2.1.length:Int),()),((),()),()),((a0.1,a0.2.1.1,a0.2.1.2,a0.2.2.1,a0.2.2.2.1,a0.2.2.2.2.1,a0.2.2.2.2.2.1,a0.2.2.2.2.2.2.1,a0.2.2.2.2.2.2.2.1,a0.2.2.2.2.2.2.2.2.1,a0.2.2.2.2.2.2.2.2.2.1,a0.2.2.2.2.2.2.2.2.2.2.1,a0.2.2.2.2.2.2.2.2.2.2.2,()),(0,0,0,(),0,0,0,0,0,(),0,false,false,()),()),(([]:List dW),()))) (fun y2 =>let r4:=ymY y2.2.1.1.2.2.2.1;some (((y2.2.1.1.1,(y2.2.1.1.2.1,y2.2.1.1.2.2.1),r4,y2.2.1.1.2.2.2.2.1,y2.2.1.1.2.2.2.2.2.1,y2.2.1.1.2.2.2.2.2.2.1,y2.2.1.1.2.2.2.2.2.2.2.1,y2.2.1.1.2.2.2.2.2.2.2.2.1,y2.2.2.1,y2.2.1.1.2.2.2.2.2.2.2.2.2.2.1,y2.2.1.1.2.2.2.2.2.2.2.2.2.2.2.1,y2.2.1.1.2.2.2.2.2.2.2.2.2.2.2.2.1),()),())) (fun y2 =>none)
theorem yP1:ConOk prog 95 ⟨yol,yv7,fun x=>yrv x.1⟩:=zkI (yLP) func95 ntmps95.symm fun x=>by kernel_rfl
def yL (a0:dA):dA:=a0
theorem yST (a0:dA) (hk:zjx yol (a0,())):yrv a0=(fun n=>some ((n,()),())) (yL a0):=by
 have hb:a0.2.2.2.2.2.2.2.2.1.length*32≤2^47:=hk.1.2.2.2.2.2.2.2.2.1.1
 have h1:=zkx (step:=ycg) a0.2.2.2.2.2.2.2.2.1 (0,[]) (fun i s=>ynA a0.2.2.2.2.2.2.2.2.1 a0.2.2.2.2.2.2.2.2.1.length i a0 ycC s) (fun s x=>s++ [x]) (fun i s=>s.length=i) (fun s=> .inl (yJ0 a0 ycC s)) (fun i s hi hs=>⟨by
   simp only[ycg,ynA,ynX,zky (show(i:Int)<a0.2.2.2.2.2.2.2.2.1.length by omega),cond_true,wq ((i:Int)+1) (by omega) (by omega),Int.natCast_add,Int.natCast_one,Int.toNat_natCast,zkR hi,zkS,yr,zkX]
   rw[zkF.2 (show(s.length+ [a0.2.2.2.2.2.2.2.2.1.getD i (0,[])].length)*32≤140737488355328 by simp only[List.length_cons,List.length_nil]; omega)]; rfl,by simp[hs]⟩) (fun s hs=>by simp only[ycg,ynA,ynX,zk3 (Int.le_refl _),cond_false]) [] rfl 18446744073709551616 (by omega)
 rw[ywt]at h1;unfold yrv yL;rw[show yoV (yJ7 a0.2.2.2.2.2.2.2.2.1 a0.2.2.2.2.2.2.2.2.1.length a0 ycC [])=_ from h1]; rfl
def ygS:Con:=⟨yol,yv7,fun x=>(fun n=>some ((n,()),())) (yL x.1)⟩
theorem ym2:ConOk prog 95 ygS:=(yP1).mono (fun x r hk h=>(yST x.1 hk).trans h)
abbrev yhc:List Par:= [.kp tWs (.ow (.pr .fz (.ow .fz))),.rd tI,.kp tWs (.ow (.pr .fz (.ow .fz)))]
abbrev yhe:List OT:= [⟨false,tWs,(.ow (.pr .fz (.ow .fz)))⟩]
end
end Go.Tf
namespace Go.Proofs
noncomputable section
open Go.Tf Go.RowKit Go.Lib
set_option synthInstance.maxHeartbeats 400000
set_option synthInstance.maxSize 10000
set_option linter.unusedVariables false
set_option linter.unusedSimpArgs false
set_option maxRecDepth 100000
theorem y0F {P:Program} (w:World) (t e ty:TypeId) (z:Value) (ht:P.underlying t=some (.slice e)) (hv: ∀w,(zeroValue e).run P w= .ok z w) (zs:List Value) (b o n c:Nat) (hn:0<n)
  (hzs:(Builtin.zeroCells z.cells n).toList=zs) (h1: ∀v∈zs,v.oneCell'=true)
  (hc: ∀j,j<zs.length→(w.cell? ⟨b,o+j,none⟩).isSome=true) (hf: ∀j,j<zs.length→w.frozen? ⟨b,o+j,none⟩=false) :
  (Builtin.clear_ #[t] ty #[.slice (some ⟨b,o,none⟩) n c]).run P w= .ok (.tuple #[]) (w.setCells b o zs):=by
 have hst:=run_storeCells_cells (P:=P) b o zs 0 w (by simpa using hc) (by simpa using hf) h1;simp only[Nat.add_zero]at hst;obtain⟨m,rfl⟩: ∃m,n=m+1:=⟨n-1,by omega⟩;simp[Builtin.clear_,run_underlying ht,hv,hzs,hst]
theorem _root_.Go.Tf.isSome_setCells (b:Nat) (vs:List Value) (o:Nat) (w:World) (h: ∀j,j<vs.length→(w.cell? ⟨b,o+j,none⟩).isSome=true) (k:Nat) (hk:(w.cell? ⟨b,k,none⟩).isSome=true):((w.setCells b o vs).cell? ⟨b,k,none⟩).isSome=true:=by
 by_cases hin:o≤k∧k<o+vs.length
 ·have:=World.cell?_setCells_in b vs o w h (k-o) (by omega)
  rw[show o+(k-o)=k by omega]at this;rw[this]; rfl
 ·rw[World.cell?_setCells_out b vs o w ⟨b,k,none⟩ (fun _ _=>by show k<o∨o+vs.length≤k; omega)]
  exact hk
def Hdd (p:Prop):Prop:=p
theorem Hdd.out {p:Prop} (h:Hdd p):p:=h
theorem yBi {P:Program} (w:World) (dT sT ty elem:TypeId) (k b o dLen dCap:Nat) (a:Addr) (sLen sCap:Nat) (cs:List Value)
  (hu:P.underlying dT=some (.slice elem)) (hs:(P.info? elem).map (·.size)=some k) (hn:cs.length=Nat.min sLen dLen*k)
  (hsrc: ∀j v,cs[j]? =some v→w.cell? (a.add j)=some v) (hc: ∀j,j<cs.length→(w.cell? ⟨b,o+j,none⟩).isSome=true) (hf: ∀j,j<cs.length→w.frozen? ⟨b,o+j,none⟩=false) (h1: ∀v∈cs,v.oneCell'=true) :
  (Builtin.copy_ #[dT,sT] ty #[.slice (some ⟨b,o,none⟩) dLen dCap,.slice (some a) sLen sCap]).run P w= .ok (goInt (Nat.min sLen dLen)) (w.setCells b o cs):=by
 have hl:=run_loadCells_list (P:=P) w a cs hsrc;have hst:=run_storeCells_cells (P:=P) b o cs 0 w (by simpa using hc) (by simpa using hf) h1;cases hq:P.info? elem with
 | none=>simp[hq]at hs
 | some i =>
  have hi:i.size=k:=by simpa [hq]using hs
  simp[Builtin.copy_,run_underlying hu,Builtin.lenOf,Builtin.firstCells,sizeOf,typeInfo,hq,hi,← hn,hl,hst]
set_option maxHeartbeats 4000000 in
set_option maxRecDepth 100000 in
theorem y0S (w:World) (b off n c:Nat) (va:Option Addr) (vc:Nat) (r:Value) (w':World) (hnc:n≤c)
  (hr:(Builtin.append_ #[29,29] 29 #[.slice (some ⟨b,off,none⟩) n c,.slice va 1 vc]).run Tryz.prog w= .ok r w') :
  Calls Tryz.prog 137 #[.slice (some ⟨b,off,none⟩) n c,.int .i64 n,.slice va 1 vc] w fun e w2=>e= .returned r∧w2=w':=by
 have hz1: ¬((1:Int)=0):=by omega
 go_enter Tryz.func137,Tryz.ntmps137
 go_wp2_with (at_builtin; refine Lib.wpList_append_run _ rfl _ _ _ _ rfl _ _ rfl rfl _ _ hr ?_)
 all_goals (go_ret; exact⟨rfl,rfl⟩)
set_option maxHeartbeats 4000000 in
set_option maxRecDepth 100000 in
theorem y3d (w:World) (va:Option Addr) (vc:Nat) (r:Value) (w':World)
  (hr:(Builtin.append_ #[29,29] 29 #[.slice none 0 0,.slice va 1 vc]).run Tryz.prog w= .ok r w') :
  Calls Tryz.prog 137 #[.slice none 0 0,.int .i64 0,.slice va 1 vc] w fun e w2=>e= .returned r∧w2=w':=by
 have hz1: ¬((1:Int)=0):=by omega
 go_enter Tryz.func137,Tryz.ntmps137
 go_wp2_with (at_builtin; refine Lib.wpList_append_run _ rfl _ _ _ _ rfl _ _ rfl rfl _ _ hr ?_)
 all_goals (go_ret; exact⟨rfl,rfl⟩)
set_option maxHeartbeats 4000000 in
set_option maxRecDepth 100000 in
theorem y1R (w:World) (b off n c i vb voff vc:Nat) (cs vs:List Value) (hi:i<n) (hroom:n+1≤c) (hn63:n<9223372036854775807) (hvb:vb≠b) (hund:Tryz.prog.underlying 29=some (.slice 123)) (hsz:(Tryz.prog.info? 123).map (·.size)=some 2) (hso: ∀w,(Go.sizeOf 123).run Tryz.prog w= .ok 2 w)
  (hcl:cs.length=(n-i)*2) (hvl:vs.length=2)
  (hcs:Hdd (∀j v,cs[j]? =some v→w.cell? ⟨b,off+i*2+j,none⟩=some v)) (hsp:Hdd (∀j,j<(n+1)*2→(w.cell? ⟨b,off+j,none⟩).isSome=true)) (hfz:Hdd (∀j,j<(n+1)*2→w.frozen? ⟨b,off+j,none⟩=false))
  (hvs:Hdd (∀j v,vs[j]? =some v→w.cell? ⟨vb,voff+j,none⟩=some v)) (h1c:Hdd (∀v∈cs,v.oneCell'=true)) (h1v:Hdd (∀v∈vs,v.oneCell'=true))
  (tA tB:TypeId) (kA kB:Nat) (hsa:w.shape? vb=some (tA,kA)) (hsb:w.shape? b=some (tB,kB)) (hkB:kB≠0) (hfa:w.frozen? ⟨vb,voff,none⟩=false) (hfe:w.frozen? ⟨vb,kA,none⟩=false) :
  Calls Tryz.prog 137 #[.slice (some ⟨b,off,none⟩) n c,.int .i64 i,.slice (some ⟨vb,voff,none⟩) 1 vc] w fun e w' =>
   e= .returned (.slice (some ⟨b,off,none⟩) (n+1) c)∧w'=(w.drew.setCells b (off+(i+1)*2) cs).setCells b (off+i*2) vs:=by
 have mixed:Tryz.prog.follows .mixedOrders=true:=by kernel_rfl
 have hz1: ¬((1:Int)=0):=by omega
 have hz2: ¬((i:Int)=(n:Int)):=by omega
 have hov: ∀lb cb,(callFunc 189 #[.slice (some ⟨vb,voff,none⟩) 1 vc,.slice (some ⟨b,off+(i+1)*2,none⟩) lb cb]).run Tryz.prog w= .ok (.value (.bool false)) w:=fun lb cb=>by
  rw[run_callFunc_extern Tryz.func189 (by kernel_rfl) (by kernel_rfl) (by kernel_rfl) (e:=Extern.SlicesOverlaps.overlaps #[29,29] #[4]) (by kernel_rfl),
   Lib.run_overlaps_apart w 29 4 123 hund 2 hso ⟨vb,voff,none⟩ ⟨b,off+(i+1)*2,none⟩ 1 vc lb cb hvb tA tB kA kB hsa hsb hkB hfa hfe]
  rfl
 have hw1:IntKind.i64.wrap ((i:Int)+1)=(i:Int)+1:=by rw[IntKind.wrap_i64]; omega
 have hb1:(0:Int)≤(i:Int)+1:=by omega
 have hin:i≤n:=by omega
 have htn:((i:Int)+1).toNat=i+1:=by omega
 have hb2: ¬(c=i+1):=by omega
 have hb3:(i:Int)≤(n:Int)+1:=by omega
 have hb4: ¬(c=i):=by omega
 have hcp1: ∀ty dc sc,(Builtin.copy_ #[29,29] ty #[.slice (some ⟨b,off+(i+1)*2,none⟩) (n-i) dc,.slice (some ⟨b,off+i*2,none⟩) (n+1-i) sc]).run Tryz.prog w.drew= .ok (goInt (Nat.min (n+1-i) (n-i))) (w.drew.setCells b (off+(i+1)*2) cs):=fun ty dc sc =>
  yBi w.drew _ _ ty 123 2 b (off+(i+1)*2) (n-i) dc ⟨b,off+i*2,none⟩ (n+1-i) sc cs hund hsz (by rw[hcl]; simp only[Nat.min_def]; split<;>omega)
   (fun j v hj=>by rw[zaO]; exact hcs.out j v hj)
   (fun j hj=>by rw[Nat.add_assoc]; exact hsp.out _ (by omega)) (fun j hj=>by rw[Nat.add_assoc]; exact hfz.out _ (by omega)) h1c.out
 obtain⟨W1,hW1⟩: ∃W1,W1=w.drew.setCells b (off+(i+1)*2) cs:=⟨_,rfl⟩
 have hsp1: ∀k,k<(n+1)*2→(W1.cell? ⟨b,off+k,none⟩).isSome=true:=fun k hk=>by
  rw[hW1];exact Tf.isSome_setCells b _ _ _ (fun j hj=>by rw[Nat.add_assoc]; exact hsp.out _ (by omega)) _ (hsp.out k hk)
 have hcp2: ∀(W:World),(∀x,W.cell? x=W1.cell? x)→(∀x,W.frozen? x=W1.frozen? x)→ ∀ty dc,(Builtin.copy_ #[29,29] ty #[.slice (some ⟨b,off+i*2,none⟩) (n+1-i) dc,.slice (some ⟨vb,voff,none⟩) 1 vc]).run Tryz.prog W= .ok (goInt (Nat.min 1 (n+1-i))) (W.setCells b (off+i*2) vs):=fun W hWc hWf ty dc =>
  yBi W _ _ ty 123 2 b (off+i*2) (n+1-i) dc ⟨vb,voff,none⟩ 1 vc vs hund hsz (by rw[hvl]; simp only[Nat.min_def]; split<;>omega)
   (fun j v hj=>by
    rw[zaO,hWc,hW1,World.cell?_setCells_out b _ _ _ _ (fun h _=>absurd h hvb)]
    exact hvs.out j v hj)
   (fun j hj=>by rw[hWc,Nat.add_assoc]; exact hsp1 _ (by omega)) (fun j hj=>by rw[hWf,hW1,World.frozen?_setCells,Nat.add_assoc]; exact hfz.out _ (by omega)) h1v.out
 rw[← hW1]at hcp1;clear hsp1
 go_enter Tryz.func137,Tryz.ntmps137
 go_wp2_with (simp only[hov])
 go_region_law_o (refine step_copy_runI rfl _ _ 29 29 rfl _ _ (by simp[Act.eval,Act.put]) (by simp[Act.eval,Act.put]) (hcp1 _ _ _) ?_)
 go_wp2_with (at_builtin; refine wpList_copy_runI _ rfl _ _ 29 29 rfl _ _ rfl rfl (hcp2 _ (fun _=>rfl) (fun _=>rfl) _ _) ?_)
 go_ret
 exact⟨rfl,rfl⟩
set_option maxHeartbeats 4000000 in
set_option maxRecDepth 100000 in
theorem y2C (w:World) (b off n c i vb voff vc:Nat) (pre cs vs:List Value) (hi:i<n) (hnc:n≤c) (hroom:c<n+1) (hbig:(n+1)*32≤140737488355328) (hund:Tryz.prog.underlying 29=some (.slice 123)) (hun3:Tryz.prog.underlying 3=some (.int .i64)) (i0:TypeInfo) (hi0:Tryz.prog.info? 123=some i0) (z:Value) (hz0:i0.zero=some z) (hsz:i0.size=2) (hbz:i0.bytes=32) (hzc:z.cells.size=2)
  (hpl:pre.length=i*2) (hcl:cs.length=(n-i)*2) (hvl:vs.length=2) (hbw:b<w.heap.size) (hvw:vb<w.heap.size)
  (hpre:Hdd (∀j v,pre[j]? =some v→w.cell? ⟨b,off+j,none⟩=some v)) (hcs:Hdd (∀j v,cs[j]? =some v→w.cell? ⟨b,off+i*2+j,none⟩=some v))
  (hvs:Hdd (∀j v,vs[j]? =some v→w.cell? ⟨vb,voff+j,none⟩=some v)) (h1c:Hdd (∀v∈cs,v.oneCell'=true)) (h1v:Hdd (∀v∈vs,v.oneCell'=true)) :
  Calls Tryz.prog 137 #[.slice (some ⟨b,off,none⟩) n c,.int .i64 i,.slice (some ⟨vb,voff,none⟩) 1 vc] w fun e w' =>
   e= .returned (.slice (some ⟨w.heap.size,0,none⟩) (n+1) (grownCap w (n+1) c 123)) ∧
   w'=(((w.alloc (.cells (pre.toArray++Builtin.zeroCells z.cells (n+1-i)++Builtin.zeroCells z.cells (grownCap w (n+1) c 123-(n+1))) 123)).drew.setCells w.heap.size (i*2) vs).drew).setCells w.heap.size ((i+1)*2) cs:=by
 have mixed:Tryz.prog.follows .mixedOrders=true:=by kernel_rfl
 have hz1: ¬((1:Int)=0):=by omega
 have hz2: ¬((i:Int)=(n:Int)):=by omega
 have hz3:(c:Int)<(n:Int)+1:=by omega
 have hszm:(Tryz.prog.info? 123).map (·.size)=some 2:=by rw[hi0]; simp[hsz]
 have hkk:(n:Int)+1-(i:Int)=((n+1-i:Nat):Int):=by omega
 have hik:i+(n+1-i)=n+1:=by omega
 have hold:(Builtin.firstCells i0.size i (.slice (some ⟨b,off,none⟩) i c)).run Tryz.prog w.drew= .ok pre.toArray w.drew:=by
  have hl:=run_loadCells_list (P:=Tryz.prog) w.drew ⟨b,off,none⟩ pre (fun j v hj=>by rw[zaO]; exact hpre.out j v hj);rw[hpl]at hl;simp[Builtin.firstCells,hsz,hl]
 have hrz: ∀ty,(Builtin.append_ #[29,3] ty #[.slice (some ⟨b,off,none⟩) i c,.int .i64 ((n:Int)+1-(i:Int))]).run Tryz.prog w =
   .ok (.slice (some ⟨w.heap.size,0,none⟩) (n+1) (grownCap w (n+1) c 123)) (w.drew.alloc (.cells (pre.toArray++Builtin.zeroCells z.cells (n+1-i)++Builtin.zeroCells z.cells (grownCap w (n+1) c 123-(n+1))) 123)):=fun ty=>by
  have h:=Lib.run_append_grow_zeros w 29 3 ty 123 i0 z .i64 .i64 hund hun3 hi0 hz0 (some ⟨b,off,none⟩) i c pre hold (n+1-i) (by omega) (by omega) (by omega) (by omega) (by rw[hbz]; omega) (by rw[hbz,hik]; exact growslice_fits hroom hbig);rw[hik]at h;rw[hkk];exact h
 obtain⟨G,hG⟩: ∃G,G=grownCap w (n+1) c 123:=⟨_,rfl⟩;obtain⟨ROW,hROW⟩: ∃ROW:Array Value,ROW=pre.toArray++Builtin.zeroCells z.cells (n+1-i)++Builtin.zeroCells z.cells (G-(n+1)):=⟨_,rfl⟩;rw[← hG]at hrz ⊢;rw[← hROW]at hrz ⊢
 have hRl:(n+1)*2≤ROW.size:=by
  rw[hROW,Array.size_append,Array.size_append,size_zeroCells,size_zeroCells,hzc,List.size_toArray,hpl];omega
 obtain⟨W1,hW1⟩: ∃W1,W1=w.drew.alloc (.cells ROW 123):=⟨_,rfl⟩;rw[← hW1]at hrz
 have hN: ∀j,j<(n+1)*2→(W1.cell? ⟨w.heap.size,j,none⟩).isSome=true:=fun j hj=>by
  rw[hW1,World.cell?_alloc_at (w:=w.drew) ROW _ w.heap.size j rfl,Array.getElem?_eq_getElem (by omega)]; rfl
 have hNf: ∀j,W1.frozen? ⟨w.heap.size,j,none⟩=false:=fun j=>by rw[hW1]; exact World.frozen?_alloc_at (w:=w.drew) ROW _ w.heap.size j rfl
 have hOb: ∀j v,w.cell? ⟨b,j,none⟩=some v→W1.cell? ⟨b,j,none⟩=some v:=fun j v h=>by rw[hW1,World.cell?_alloc_past (w:=w.drew) _ b j hbw]; exact h
 have hOv: ∀j v,w.cell? ⟨vb,j,none⟩=some v→W1.cell? ⟨vb,j,none⟩=some v:=fun j v h=>by rw[hW1,World.cell?_alloc_past (w:=w.drew) _ vb j hvw]; exact h
 have hcpA: ∀(W:World),(∀x,W.cell? x=W1.cell? x)→(∀x,W.frozen? x=W1.frozen? x)→ ∀ty dc,(Builtin.copy_ #[29,29] ty #[.slice (some ⟨w.heap.size,i*2,none⟩) (n+1-i) dc,.slice (some ⟨vb,voff,none⟩) 1 vc]).run Tryz.prog W= .ok (goInt (Nat.min 1 (n+1-i))) (W.setCells w.heap.size (i*2) vs):=fun W hWc hWf ty dc =>
  yBi W _ _ ty 123 2 w.heap.size (i*2) (n+1-i) dc ⟨vb,voff,none⟩ 1 vc vs hund hszm (by rw[hvl]; simp only[Nat.min_def]; split<;>omega)
   (fun j v hj=>by rw[zaO,hWc]; exact hOv _ v (hvs.out j v hj))
   (fun j hj=>by rw[hWc]; exact hN _ (by omega)) (fun j hj=>by rw[hWf]; exact hNf _) h1v.out
 have hGn:n+1≤G:=by rw[hG]; exact grownCap_ge w _ _ _
 have hG63:G≤9223372036854775807:=by
  have:=grownCap_le_maxLen w (n+1) c 123 (by unfold maxLen; omega);rw[← hG]at this;unfold maxLen at this;omega
 have hGi: ¬(G=i):=by omega
 have hGim: ¬(G=i+1):=by omega
 have hci: ¬(c=i):=by omega
 have hbN:b≠w.heap.size:=by omega
 have hcpB: ∀(W:World),(∀x,W.cell? x=(W1.setCells w.heap.size (i*2) vs).cell? x)→(∀x,W.frozen? x=(W1.setCells w.heap.size (i*2) vs).frozen? x)→ ∀ty dc sc,(Builtin.copy_ #[29,29] ty #[.slice (some ⟨w.heap.size,(i+1)*2,none⟩) (n-i) dc,.slice (some ⟨b,off+i*2,none⟩) (n-i) sc]).run Tryz.prog W= .ok (goInt (Nat.min (n-i) (n-i))) (W.setCells w.heap.size ((i+1)*2) cs):=fun W hWc hWf ty dc sc =>
  yBi W _ _ ty 123 2 w.heap.size ((i+1)*2) (n-i) dc ⟨b,off+i*2,none⟩ (n-i) sc cs hund hszm (by rw[hcl]; simp only[Nat.min_def]; split<;>omega)
   (fun j v hj=>by
    rw[zaO,hWc,World.cell?_setCells_out _ _ _ _ _ (fun h _=>absurd h hbN)]
    exact hOb _ v (hcs.out j v hj))
   (fun j hj=>by rw[hWc]; exact Tf.isSome_setCells _ _ _ _ (fun t ht=>hN _ (by omega)) _ (hN _ (by omega)))
   (fun j hj=>by rw[hWf,World.frozen?_setCells]; exact hNf _) h1c.out
 subst hW1;have hE1: ∀x,((w.alloc (.cells ROW 123)).drew).cell? x=(w.drew.alloc (.cells ROW 123)).cell? x:=fun x=>rfl
 have hE2: ∀x,((w.alloc (.cells ROW 123)).drew).frozen? x=(w.drew.alloc (.cells ROW 123)).frozen? x:=fun x=>rfl
 have hF1: ∀x,(((w.alloc (.cells ROW 123)).drew.setCells w.heap.size (i*2) vs).drew).cell? x=((w.drew.alloc (.cells ROW 123)).setCells w.heap.size (i*2) vs).cell? x:=fun x=>rfl
 have hF2: ∀x,(((w.alloc (.cells ROW 123)).drew.setCells w.heap.size (i*2) vs).drew).frozen? x=((w.drew.alloc (.cells ROW 123)).setCells w.heap.size (i*2) vs).frozen? x:=fun x=>rfl
 have hw1:IntKind.i64.wrap ((i:Int)+1)=(i:Int)+1:=by rw[IntKind.wrap_i64]; omega
 have hb1:(0:Int)≤(i:Int)+1:=by omega
 have hin:i≤n:=by omega
 have htn:((i:Int)+1).toNat=i+1:=by omega
 have hb3:(i:Int)≤(n:Int):=by omega
 clear hkk hik hold hROW hG hRl
 go_enter Tryz.func137,Tryz.ntmps137
 go_wp2_with (first
  | (at_builtin; refine Lib.wpList_append_run _ rfl _ _ _ _ rfl _ _ rfl rfl _ _ (hrz _) ?_)
  | (at_builtin; refine wpList_copy_runI _ rfl _ _ 29 29 rfl _ _ rfl rfl (hcpA _ hE1 hE2 _ _) ?_)
  | (at_builtin; refine wpList_copy_runI _ rfl _ _ 29 29 rfl _ _ rfl rfl (hcpB _ (fun _=>rfl) (fun _=>rfl) _ _ _) ?_))
 go_region_law_o (refine step_copy_runI rfl _ _ 29 29 rfl (.slice (some ⟨w.heap.size,(i+1)*2,none⟩) (n-i) (G-(i+1))) (.slice (some ⟨b,off+i*2,none⟩) (n-i) (c-i)) (by simp[Act.eval,Act.put]) (by simp[Act.eval,Act.put]) (hcpB _ hF1 hF2 3 (G-(i+1)) (c-i)) ?_)
 go_wp2
 go_ret
 exact⟨rfl,rfl⟩
end
end Go.Proofs
namespace Go.Tf
noncomputable section
open Go.Proofs Go.Proofs.Tryz IntKind
set_option synthInstance.maxHeartbeats 400000
set_option synthInstance.maxSize 10000
set_option linter.unusedVariables false
set_option linter.unusedSimpArgs false
set_option maxRecDepth 100000
abbrev aW:Ann:= .pr .fz (.ow .fz)
theorem yJX {α:Type} {l:List α} {i j:Nat} (h:i=j):l[i]? =l[j]? :=h ▸ rfl
theorem yxu {b o n:Nat} {vs:List Value} {w:World} (hc:zh (hp w) b o n=some vs): ∀j v,vs[j]? =some v→w.cell? ⟨b,o+j,none⟩=some v:=fun j v hj=>by
 have hl:=zaA hc;have hj2:=(List.getElem?_eq_some_iff.1 hj).1;rw[zb1,← zab hc j (by omega)]; exact hj
theorem y0N {w:World} {b:Nat} {c:Array Value} {T:TypeId} (hb:hp w b=some (.cells c T (0,0))) {j:Nat} (hj:j<c.size):(w.cell? ⟨b,j,none⟩).isSome=true∧w.frozen? ⟨b,j,none⟩=false:=by
 refine⟨by rw[zb1]; unfold zL; rw[hb]; simp[hj],?_⟩;unfold World.frozen?;have:w.heap[b]? =some (.cells c T (0,0)):=hb;simp[this]
theorem y3E {w:World} {b:Nat} {c:Array Value} {T:TypeId} (hb:hp w b=some (.cells c T (0,0))) (j:Nat):w.frozen? ⟨b,j,none⟩=false:=by
 unfold World.frozen?;have:w.heap[b]? =some (.cells c T (0,0)):=hb;simp[this]
theorem y0e {w:World} {b:Nat} {c:Array Value} {T:TypeId} (hb:hp w b=some (.cells c T (0,0))):w.shape? b=some (T,c.size):=by
 unfold World.shape?;have:w.heap[b]? =some (.cells c T (0,0)):=hb;simp[this]
theorem y0H {w:World} {b o:Nat} {c:Array Value} {T:TypeId} {v:Value} (hb:hp w b=some (.cells c T (0,0))) (ho:o<c.size):w.setCell ⟨b,o,none⟩ v=World.setBlk w b (c.setIfInBounds o v) T:=by
 have hb':w.heap[b]? =some (.cells c T (0,0)):=hb;unfold World.setCell World.setBlk;congr 1;apply Array.ext_getElem?;intro j;rw[Array.getElem?_modify,Array.getElem?_setIfInBounds];by_cases hj:b=j
 ·subst hj
  have hlt2:b<w.heap.size:=(Array.getElem?_eq_some_iff.1 hb').1;have hg:w.heap[b]=Obj.cells c T (0,0):=by rw[Array.getElem?_eq_getElem hlt2]at hb'; simpa using hb'
  simp[hlt2,hg]
 ·simp[hj]
theorem yha {b:Nat} {T:TypeId}: ∀(vs:List Value) (o:Nat) (w:World) (c:Array Value),hp w b=some (.cells c T (0,0))→o+vs.length≤c.size→w.setCells b o vs=World.setBlk w b (zi c o vs) T
 | [],o,w,c,hb,_=>by
  have hb':w.heap[b]? =some (.cells c T (0,0)):=hb;show w=_;unfold World.setBlk zi
  have:w.heap.setIfInBounds b (.cells c T (0,0))=w.heap:=by
   apply Array.ext_getElem?;intro j;rw[Array.getElem?_setIfInBounds];split
   ·subst_vars
    split
    ·exact hb'.symm
    ·rename_i hn; rw[Array.getElem?_eq_none (by omega)]
   ·rfl
  rw[this]
 | v::vs,o,w,c,hb,hl=>by
  simp only[List.length_cons]at hl;have hsz:b<w.heap.size:=(Array.getElem?_eq_some_iff.1 (show w.heap[b]? =_ from hb)).1;rw[World.setCells,y0H hb (by omega),yha vs (o+1) _ (c.setIfInBounds o v) (zbo hsz) (by simp; omega)];show World.setBlk (World.setBlk w b (c.setIfInBounds o v) T) b (zi (c.setIfInBounds o v) (o+1) vs) T=World.setBlk w b (zi (c.setIfInBounds o v) (o+1) vs) T;unfold World.setBlk;simp
theorem yGE {fp0 fpV:List (List Nat)} {i:Nat}:List.Perm ((fp0.take i++fpV)++fp0.drop i).flatten (fp0.flatten++fpV.flatten):=by
 have h:fp0.flatten=(fp0.take i).flatten++(fp0.drop i).flatten:=by rw[← List.flatten_append,List.take_append_drop]
 rw[List.flatten_append,List.flatten_append,h,List.append_assoc,List.append_assoc];exact List.Perm.append_left _ List.perm_append_comm
theorem yGF {h h':za} {Z:Nat→Prop} {l:List dW} {x:dW} {vs0 vsV:List Value} {f0 fV:List (List Nat)} {i B o cap:Nat} {c:Array Value} {T:TypeId}
  (e0:Elems h Z tW aW l vs0 f0) (eV:Elems h Z tW aW [x] vsV fV) (hi:i≤l.length) (hk: ∀b,Z b→h' b=h b) (hf: ∀b∈f0.flatten++fV.flatten,h' b=h b) (hB:h' B=some (.cells c T (0,0))) (hcap:o+cap*2≤c.size) (hl:l.length+1≤cap) (hbnd:(l.length+1)*32≤2^47)
  (hc:zh h' B o ((l.length+1)*2)=some (vs0.take (i*2)++vsV++vs0.drop (i*2))):Own h' Z (.sl tW) (.ow aW) (l.take i++ [x]++l.drop i) [.slice (some ⟨B,o,none⟩) (l.length+1) cap] (B::((f0.take i++fV)++f0.drop i).flatten):=by
 have s1:=Elems.sub e0 0 i (by omega);have s2:=Elems.sub e0 i (l.length-i) (by omega);have hlen:=e0.len;have hfl:=e0.fl;have hsz:tW.size=2:=rfl;rw[hsz]at hlen s1 s2;rw[Nat.zero_mul,List.drop_zero,List.drop_zero,List.drop_zero]at s1;rw[List.take_of_length_le (l:=l.drop i) (by rw[List.length_drop]; omega),List.take_of_length_le (l:=vs0.drop (i*2)) (by rw[List.length_drop]; omega),List.take_of_length_le (l:=f0.drop i) (by rw[List.length_drop]; omega)]at s2;have e:=(s1.append eV).append s2;have e':=e.keep hk (fun _ h=>h) (fun b hb=>hf b ((yGE (fp0:=f0) (fpV:=fV) (i:=i)).mem_iff.1 hb));have hL:(l.take i++ [x]++l.drop i).length=l.length+1:=by simp; omega
 have:=e'.own (b:=B) (o:=o) (cap:=cap) hB (by rw[hL]; exact hc) (by exact hcap) (by rw[hL]; exact hl) (by rw[hL]; exact hbnd);rw[hL]at this;exact this
theorem yNu {h:za} {B o n i:Nat} {X:Array Value} {T:TypeId} {vs0 vsV:List Value} (hB:h B=some (.cells X T (0,0))) (hl:vs0.length=n*2) (hv:vsV.length=2) (hi:i≤n)
  (h1: ∀j,j<i*2→X[o+j]? =vs0[j]?) (h2: ∀j,j<2→X[o+i*2+j]? =vsV[j]?) (h3: ∀j,j<(n-i)*2→X[o+(i+1)*2+j]? =vs0[i*2+j]?):zh h B o ((n+1)*2)=some (vs0.take (i*2)++vsV++vs0.drop (i*2)):=by
 have hL:(vs0.take (i*2)++vsV++vs0.drop (i*2)).length=(n+1)*2:=by simp[hl,hv]; omega
 have:=zap (h:=h) (b:=B) (vs0.take (i*2)++vsV++vs0.drop (i*2)) o (fun j hj=>by
  rw[hL]at hj;unfold zL;rw[hB];show X[o+j]? =_;by_cases g1:j<i*2
  ·rw[h1 j g1,List.append_assoc,List.getElem?_append_left (by rw[List.length_take]; omega),List.getElem?_take,if_pos g1]
  ·by_cases g2:j<i*2+2
   ·rw[show o+j=o+i*2+(j-i*2)by omega,h2 _ (by omega),List.append_assoc,List.getElem?_append_right (by rw[List.length_take]; omega),List.getElem?_append_left (by rw[List.length_take]; omega),List.length_take]
    exact yJX (by omega)
   ·rw[show o+j=o+(i+1)*2+(j-(i+1)*2)by omega,h3 _ (by omega),List.getElem?_append_right (by rw[List.length_append,List.length_take]; omega),List.length_append,List.length_take,hv,List.getElem?_drop]
    exact yJX (by omega))
 rw[hL]at this; exact this
def ya5 (l:List dW) (i:Int) (v:List dW):Bool:=leb 0 i&&(leb i (l.length:Int)&&(v.length==1&&decide ((l.length+1)*32≤2^47)))
def yhl (l:List dW) (i:Int) (v:List dW):List dW:=l.take i.toNat++v++l.drop i.toNat
def yKY:Con:=⟨yhc,yhe,fun x=>bif ya5 x.1 x.2.1 x.2.2.1 then some ((yhl x.1 x.2.1 x.2.2.1,()),())else none⟩
theorem yDg {a0 a1 a2:Value} {w:World} {Z:Nat→Prop} {fs:List (List Nat)} {l':List dW} {v:Value} {B:Nat} {w2:World} {g gl:List Nat} (hio:zby w2=zby w) (hsz:w.heap.size≤w2.heap.size)
  (hB:(w.heap.size≤B∧B<w2.heap.size)∨B∈fs.flatten) (hZ: ¬Z B) (hk: ∀b,b<w.heap.size→b∉fs.flatten→hp w2 b=hp w b) (hp0:g.Perm gl) (hgn:gl.Nodup) (hgB: ∀x∈gl,x≠B) (hgm: ∀x∈gl,x∈fs.flatten∧ ¬Z x) (ho:Own (hp w2) Z (.sl tW) (.ow aW) l' [v] (B::g)):DoneOk yKY [a0,a1,a2] fs Z w ((l',()),()) (.returned v) w2:=by
 refine⟨[v],Z,[B::g],[[],[],[]],rfl,hio,hsz,hk,fun _ h=>h,fun _ h=> .inl h,⟨⟨[v],rfl,ho⟩,trivial⟩,⟨rfl,rfl,rfl,trivial⟩,?_,fun b hb=> ?_⟩
 ·simp only[List.flatten_cons,List.flatten_nil,List.append_nil,List.nodup_cons]
  exact⟨fun h=>hgB B (hp0.mem_iff.1 h) rfl,hp0.nodup_iff.2 hgn⟩
 ·simp only[List.flatten_cons,List.flatten_nil,List.append_nil,List.mem_cons]at hb
  rcases hb with rfl | hb
  ·exact⟨hB,hZ⟩
  ·have:=hgm b (hp0.mem_iff.1 hb)
   exact⟨.inr this.1,this.2⟩
theorem y3e (w:World) (Z R:Nat→Prop) (l:List dW) (i:Nat) (x:dW) (a0 a2:Value) (f0 f2:List Nat) (o0:Own (hp w) Z (.sl tW) (.ow aW) l [a0] f0) (o2:Own (hp w) Z (.sl tW) (.ow aW) [x] [a2] f2) (hi:i≤l.length) (hbnd:(l.length+1)*32≤2^47)
  (hlow: ∀b,Z b∨R b→b<w.heap.size) (hnd:(f0++f2).Nodup) (hfr: ∀b∈f0++f2,b<w.heap.size∧ ¬Z b∧ ¬R b):Calls prog 137 #[a0,.int .i64 (i:Int),a2] w (DoneOk yKY [a0,.int .i64 (i:Int),a2] [f0,[],f2] Z w ((l.take i++ [x]++l.drop i,()),())):=by
 have hund:prog.underlying 29=some (.slice 123):=by kernel_rfl
 have hinf:(prog.info? 123).map (fun f=>(f.zero,f.size,f.bytes))=some (some (zA tW),tW.size,tW.bytes):=by kernel_rfl
 obtain⟨i0,hi0,hz0,hsz,hbz⟩: ∃i0,prog.info? 123=some i0∧i0.zero=some (zA tW)∧i0.size=2∧i0.bytes=32:=by
  cases hq:prog.info? 123 with
  | none=>rw[hq]at hinf; cases hinf
  | some f =>
   rw[hq]at hinf;simp only[Option.map_some,Option.some.injEq,Prod.mk.injEq]at hinf;exact⟨f,rfl,hinf.1,hinf.2.1,hinf.2.2⟩
 have hzc:(zA tW).cells.size=2:=rfl;have hnd1:=hnd;obtain⟨hndl,hndr,hdis⟩:=List.nodup_append.1 hnd1;have hZ0: ∀b∈f0,¬Z b:=fun b hb=>(hfr b (List.mem_append.2 (.inl hb))).2.1
 have hfl:([f0,[],f2]:List (List Nat)).flatten=f0++f2:=by simp
 obtain⟨hd,cap,hv0,_,hlc,hc0⟩:=Own.elems o0;obtain⟨hdv,capv,hvv,_,hlcv,hcv⟩:=Own.elems o2;rcases hcv with⟨h9,_⟩ | ⟨bv,ov,cv,Tv,vsV,fpV,rfl,hBv,hcapv,hfv,hcsv,eV⟩
 ·cases h9
 subst hv0 hvv;have hszt:tW.size=2:=rfl;have eV':=eV;have hvl:vsV.length=2:=by have:=eV.len; rw[hszt]at this; exact this
 rw[hszt]at hcsv hcapv;have h1v:=fun v hv=>ziE (eV.isCells (by decide) v hv)
 have hbvf:bv∈f2:=by rw[hfv]; exact List.mem_cons_self
 have hvlt:bv<w.heap.size:=(hfr bv (List.mem_append.2 (.inr hbvf))).1;rcases hc0 with⟨rfl,rfl,rfl,rfl⟩ | ⟨b,o,c,T,vs0,fp0,rfl,hB,hcap,hf0,hcs0,e0⟩
 ·
  have hi0':i=0:=by simpa using hi
  subst hi0'
  have hgm0: ∀x∈([]:List (List Nat)).flatten++fpV.flatten,x∈ []++f2:=fun x hx=>by
   simp only[List.flatten_nil,List.nil_append]at hx ⊢;rw[hfv]; exact List.mem_cons_of_mem _ hx
  have hgn0:(([]:List (List Nat)).flatten++fpV.flatten).Nodup:=by
   simp only[List.flatten_nil,List.nil_append];rw[hfv]at hndr;exact(List.nodup_cons.1 hndr).2
  rcases ziO (P:=prog) (w:=w) (t:=29) (e:=123) (z:=zA tW) hund hi0 hz0 (base:=none) (xa:=some ⟨bv,ov,none⟩) (sLen:=0) (sCap:=0) (n:=1) (c:=capv) (olds:= []) (news:=vsV) ⟨by simp,.inl rfl⟩ ⟨by rw[hvl,hsz],.inr ⟨bv,ov,rfl,by rw[hsz]; exact hcsv⟩⟩ (eV.isCells (by decide)) (Nat.le_refl _) (fun _=>rfl) (by omega) (by rw[hzc,hsz]) (by rw[hbz]; decide) (by omega) (fun h=>by omega)with⟨h,_⟩ | ⟨_,cap,rest,hcp,hrest,hr⟩
  ·omega
  ·refine(y3d w _ _ _ _ hr).mono fun e w2 ⟨he,hw2⟩=> ?_
   subst he hw2;rw[hsz]at hrest;have hnew:hp (World.push w.drew (.cells (([]:List Value).toArray++vsV.toArray++rest) 123)) w.heap.size=some (.cells (([]:List Value).toArray++vsV.toArray++rest) 123 (0,0)):=zcr (w:=w.drew);have hcs:(([]:List Value).toArray++vsV.toArray++rest).size=vsV.length+rest.size:=by simp
   refine yDg (B:=w.heap.size) rfl (by rw[zc9]; exact Nat.le_succ _) (.inl ⟨Nat.le_refl _,by rw[zc9]; exact Nat.lt_succ_self _⟩) (fun hz=>by have:=hlow _ (.inl hz); omega) (fun b hb _=>zar (w:=w.drew) hb) (yGE (fp0:= []) (i:=0)) hgn0 (fun x hx=>by have:=(hfr x (hgm0 x hx)).1; omega) (fun x hx=>⟨by rw[hfl]; exact hgm0 x hx,(hfr x (hgm0 x hx)).2.1⟩) ?_;refine yGF (h:=hp w) (vs0:= []) (f0:= []) (i:=0) Elems.nil eV' (Nat.le_refl _) (fun b hb=>zar (w:=w.drew) (hlow b (.inl hb))) (fun x hx=>zar (w:=w.drew) (hfr x (hgm0 x hx)).1) hnew (by rw[hcs]; omega) (by simpa using hcp) (by decide) ?_;have:=za7 hnew (o:=0) (n:=2) (by rw[hcs]; omega);show zh _ _ 0 2=_;rw[this];simp[hvl]
 ·have e0':=e0
  have hgm: ∀x∈fp0.flatten++fpV.flatten,x∈f0++f2:=fun x hx=>by
   rcases List.mem_append.1 hx with h | h
   ·exact List.mem_append.2 (.inl (by rw[hf0]; exact List.mem_cons_of_mem _ h))
   ·exact List.mem_append.2 (.inr (by rw[hfv]; exact List.mem_cons_of_mem _ h))
  have hgm2: ∀x∈fp0.flatten++fpV.flatten,x∈([f0,[],f2]:List (List Nat)).flatten∧ ¬Z x:=fun x hx=>⟨by rw[hfl]; exact hgm x hx,(hfr x (hgm x hx)).2.1⟩
  have hgl: ∀x∈fp0.flatten++fpV.flatten,x<w.heap.size:=fun x hx=>(hfr x (hgm x hx)).1
  have hgs: ∀x∈fp0.flatten++fpV.flatten,x≠w.heap.size:=fun x hx=>by have:=hgl x hx; omega
  have hnd3:((b::fp0.flatten)++(bv::fpV.flatten)).Nodup:=by rw[← hf0,← hfv]; exact hnd
  have hsub:(b::(fp0.flatten++fpV.flatten)).Sublist ((b::fp0.flatten)++(bv::fpV.flatten)):=List.Sublist.cons_cons _ (List.Sublist.append (List.Sublist.refl _) (List.sublist_cons_self _ _));have hgb':=hnd3.sublist hsub;rw[List.nodup_cons]at hgb';have hgn:=hgb'.2;have hgb: ∀x∈fp0.flatten++fpV.flatten,x≠b:=fun x hx e=>hgb'.1 (e ▸ hx)
  have hl0:=e0.len;rw[hszt]at hcs0 hcap hl0;have h1c:=fun v hv=>ziE (e0.isCells (by decide) v hv)
  have hbf:b∈f0:=by rw[hf0]; exact List.mem_cons_self
  have hbf':b∈f0++f2:=List.mem_append.2 (.inl hbf);obtain⟨hblt,hbZ,_⟩:=hfr b hbf';have hbvb:bv≠b:=fun e=>hdis b hbf bv hbvf e.symm
  have hkZ: ∀{w2:World},(∀b',b'≠b→hp w2 b'=hp w b')→ ∀b',Z b'→hp w2 b'=hp w b':=fun h b' hb'=>h b' (fun e=>hbZ (e ▸ hb'))
  by_cases hin:i=l.length
  ·subst hin
   rcases ziO (P:=prog) (w:=w) (t:=29) (e:=123) (z:=zA tW) hund hi0 hz0 (base:=some ⟨b,o,none⟩) (xa:=some ⟨bv,ov,none⟩) (sLen:=l.length) (sCap:=cap) (n:=1) (c:=capv) (olds:=vs0) (news:=vsV) ⟨by rw[hl0,hsz],.inr ⟨b,o,rfl,by rw[hsz]; exact hcs0⟩⟩ ⟨by rw[hvl,hsz],.inr ⟨bv,ov,rfl,by rw[hsz]; exact hcsv⟩⟩ (eV.isCells (by decide)) hlc (fun h=>by cases h) (by omega) (by rw[hzc,hsz]) (by rw[hbz]; exact hbnd) (by omega) (fun h ad had=>by cases had; exact⟨b,o,c,T,rfl,hB,by rw[hsz]; exact hcap⟩)with⟨hroom,h⟩ | ⟨_,cap2,rest,hcp,hrest,hr⟩
   ·rcases h with⟨h,_⟩ | ⟨b2,o2',cur,T2,hbo,hB2,hcap2,hr⟩
    ·cases h
    ·cases hbo
     rw[hB]at hB2;cases hB2;refine(y0S w b o l.length cap _ _ _ _ hlc hr).mono fun e w2 ⟨he,hw2⟩=> ?_
     subst he hw2;rw[hsz];have hBn:hp (World.setBlk w b (zi c (o+l.length*2) vsV) T) b=some (.cells (zi c (o+l.length*2) vsV) T (0,0)):=zbo hblt;have oth: ∀b',b'≠b→hp (World.setBlk w b (zi c (o+l.length*2) vsV) T) b'=hp w b':=fun b' h=>zbp h
     refine yDg (B:=b) rfl (by simp[World.setBlk]) (.inr (by rw[hfl]; exact hbf')) hbZ (fun b' _ hb'=>oth b' (fun e=>hb' (by rw[hfl,e]; exact hbf'))) (yGE (i:=l.length)) hgn hgb hgm2 ?_;refine yGF (h:=hp w) (vs0:=vs0) (i:=l.length) e0' eV' (Nat.le_refl _) (hkZ oth) (fun x hx=>oth x (hgb x hx)) hBn (by rw[za3]; exact hcap) hroom hbnd ?_;rw[List.take_of_length_le (by omega),List.drop_eq_nil_of_le (by omega),List.append_nil];have hL:(vs0++vsV).length=(l.length+1)*2:=by rw[List.length_append]; omega
     have:=zap (h:=hp (World.setBlk w b (zi c (o+l.length*2) vsV) T)) (b:=b) (vs0++vsV) o (fun j hj=>by
      rw[hL]at hj;unfold zL;rw[hBn];show(zi c (o+l.length*2) vsV)[o+j]? =_;rw[zah _ _ _ _ (by omega)];by_cases h1:j<l.length*2
      ·rw[if_neg (by omega),List.getElem?_append_left (by omega),zab hcs0 j h1]
       unfold zL; rw[hB]
      ·rw[if_pos (by omega),List.getElem?_append_right (by omega)]
       exact yJX (by omega))
     rw[hL]at this; exact this
   ·refine(y0S w b o l.length cap _ _ _ _ hlc hr).mono fun e w2 ⟨he,hw2⟩=> ?_
    subst he hw2;rw[hsz]at hrest;have hnew:hp (World.push w.drew (.cells (vs0.toArray++vsV.toArray++rest) 123)) w.heap.size=some (.cells (vs0.toArray++vsV.toArray++rest) 123 (0,0)):=zcr (w:=w.drew);have hcs:(vs0.toArray++vsV.toArray++rest).size=vs0.length+vsV.length+rest.size:=by simp
    refine yDg (B:=w.heap.size) rfl (by rw[zc9]; exact Nat.le_succ _) (.inl ⟨Nat.le_refl _,by rw[zc9]; exact Nat.lt_succ_self _⟩) (fun hz=>by have:=hlow _ (.inl hz); omega) (fun b hb _=>zar (w:=w.drew) hb) (yGE (i:=l.length)) hgn hgs hgm2 ?_;refine yGF (h:=hp w) (vs0:=vs0) (i:=l.length) e0' eV' (Nat.le_refl _) (fun b hb=>zar (w:=w.drew) (hlow b (.inl hb))) (fun x hx=>zar (w:=w.drew) (hgl x hx)) hnew (by rw[hcs]; omega) hcp hbnd ?_;have:=za7 hnew (o:=0) (n:=(l.length+1)*2) (by rw[hcs]; omega);have t1:vs0.take (l.length*2)=vs0:=List.take_of_length_le (by omega);have t2:vs0.drop (l.length*2)= []:=List.drop_eq_nil_of_le (by omega);rw[this,t1,t2];simp only[Array.toList_append,List.drop_zero,List.append_nil,Option.some.injEq];rw[List.take_append_of_le_length (by rw[List.length_append]; omega),List.take_of_length_le (by rw[List.length_append]; omega)]
  ·have hlt:i<l.length:=by omega
   have hpl:(vs0.take (i*2)).length=i*2:=by rw[List.length_take]; omega
   have hcl:(vs0.drop (i*2)).length=(l.length-i)*2:=by rw[List.length_drop]; omega
   have hcsd:Hdd (∀j v,(vs0.drop (i*2))[j]? =some v→w.cell? ⟨b,o+i*2+j,none⟩=some v):=fun j v hj=>by
    rw[List.getElem?_drop]at hj;rw[Nat.add_assoc];exact yxu hcs0 _ v hj
   by_cases hroom:l.length+1≤cap
   ·have hin: ∀j,j<(l.length+1)*2→(w.cell? ⟨b,o+j,none⟩).isSome=true∧w.frozen? ⟨b,o+j,none⟩=false:=fun j hj=>y0N hB (by omega)
    refine(y1R w b o l.length cap i bv ov capv (vs0.drop (i*2)) vsV hlt hroom (by omega) hbvb hund (by rw[hi0]; simp[hsz]) (fun w=>by rw[zZ hi0,hsz]) hcl hvl hcsd (fun j hj=>(hin j hj).1) (fun j hj=>(hin j hj).2) (yxu hcsv) (fun v hv=>h1c v (List.mem_of_mem_drop hv)) h1v Tv T cv.size c.size (y0e hBv) (y0e hB) (by omega) (y3E hBv _) (y3E hBv _)).mono fun e w2 ⟨he,hw2⟩=> ?_
    subst he;have e1:w.drew.setCells b (o+(i+1)*2) (vs0.drop (i*2))=World.setBlk w.drew b (zi c (o+(i+1)*2) (vs0.drop (i*2))) T:=yha _ _ w.drew c hB (by omega);have hb1:hp (World.setBlk w.drew b (zi c (o+(i+1)*2) (vs0.drop (i*2))) T) b=some (.cells (zi c (o+(i+1)*2) (vs0.drop (i*2))) T (0,0)):=zbo (w:=w.drew) hblt;rw[e1,yha vsV _ _ _ hb1 (by rw[za3]; omega)]at hw2;subst hw2;have hsz1:b<(World.setBlk w.drew b (zi c (o+(i+1)*2) (vs0.drop (i*2))) T).heap.size:=by simp[World.setBlk]<;>exact hblt
    have hBn:hp (World.setBlk (World.setBlk w.drew b (zi c (o+(i+1)*2) (vs0.drop (i*2))) T) b (zi (zi c (o+(i+1)*2) (vs0.drop (i*2))) (o+i*2) vsV) T) b=some (.cells (zi (zi c (o+(i+1)*2) (vs0.drop (i*2))) (o+i*2) vsV) T (0,0)):=zbo hsz1;have oth: ∀b',b'≠b→hp (World.setBlk (World.setBlk w.drew b (zi c (o+(i+1)*2) (vs0.drop (i*2))) T) b (zi (zi c (o+(i+1)*2) (vs0.drop (i*2))) (o+i*2) vsV) T) b'=hp w b':=fun b' h=>(zbp h).trans (zbp (w:=w.drew) h)
    refine yDg (B:=b) rfl (by simp[World.setBlk]<;>exact Nat.le_refl _) (.inr (by rw[hfl]; exact hbf')) hbZ (fun b' _ hb'=>oth b' (fun e=>hb' (by rw[hfl,e]; exact hbf'))) (yGE (i:=i)) hgn hgb hgm2 ?_;refine yGF (h:=hp w) (vs0:=vs0) (i:=i) e0' eV' hi (hkZ oth) (fun x hx=>oth x (hgb x hx)) hBn (by rw[za3,za3]; exact hcap) hroom hbnd ?_;refine yNu hBn hl0 hvl hi (fun j hj=> ?_) (fun j hj=> ?_) (fun j hj=> ?_)
    ·rw[zah _ _ _ _ (by rw[za3]; omega),zah _ _ _ _ (by omega),if_neg (by omega),if_neg (by omega),zab hcs0 j (by omega)]
     unfold zL; rw[hB]
    ·rw[zah _ _ _ _ (by rw[za3]; omega),if_pos (by omega)]
     exact yJX (by omega)
    ·rw[zah _ _ _ _ (by rw[za3]; omega),zah _ _ _ _ (by omega),if_neg (by omega),if_pos (by omega),List.getElem?_drop]
     exact yJX (by omega)
   ·refine(y2C w b o l.length cap i bv ov capv (vs0.take (i*2)) (vs0.drop (i*2)) vsV hlt hlc (by omega) hbnd hund (by kernel_rfl) i0 hi0 (zA tW) hz0 hsz hbz hzc hpl hcl hvl hblt hvlt (fun j v hj=>by
     rw[List.getElem?_take]at hj;split at hj
     ·exact yxu hcs0 _ v hj
     ·cases hj) hcsd (yxu hcsv) (fun v hv=>h1c v (List.mem_of_mem_drop hv)) h1v).mono fun e w2 ⟨he,hw2⟩=> ?_
    subst he;generalize hG:grownCap w (l.length+1) cap 123=G at hw2;have hGn:l.length+1≤G:=by rw[← hG]; exact grownCap_ge w _ _ _
    generalize hROW:(vs0.take (i*2)).toArray++Builtin.zeroCells (zA tW).cells (l.length+1-i)++Builtin.zeroCells (zA tW).cells (G-(l.length+1))=ROW at hw2
    have hRs:ROW.size=G*2:=by
     rw[← hROW,Array.size_append,Array.size_append,size_zeroCells,size_zeroCells,hzc,List.size_toArray,hpl];omega
    have hRg: ∀j,j<i*2→ROW[j]? =vs0[j]? :=fun j hj=>by
     rw[← hROW,Array.append_assoc,Array.getElem?_append_left (by simp; omega)];simp[List.getElem?_take,hj]
    have hA0:hp (w.alloc (.cells ROW 123)).drew w.heap.size=some (.cells ROW 123 (0,0)):=zcr (w:=w);have hs0:(w.alloc (.cells ROW 123)).drew.heap.size=w.heap.size+1:=zc9 (w:=w);have ho0: ∀b',b'<w.heap.size→hp (w.alloc (.cells ROW 123)).drew b'=hp w b':=fun b' h=>zar (w:=w) h
    have hi0':zby (w.alloc (.cells ROW 123)).drew=zby w:=rfl;generalize (w.alloc (.cells ROW 123)).drew=A0 at hw2 hA0 hs0 ho0 hi0';rw[yha vsV _ _ _ hA0 (by omega)]at hw2;have hA1:hp (World.setBlk A0 w.heap.size (zi ROW (i*2) vsV) 123).drew w.heap.size=some (.cells (zi ROW (i*2) vsV) 123 (0,0)):=zbo (w:=A0) (by omega)
    have hs1:(World.setBlk A0 w.heap.size (zi ROW (i*2) vsV) 123).drew.heap.size=w.heap.size+1:=by
     show(World.setBlk A0 w.heap.size (zi ROW (i*2) vsV) 123).heap.size=_;simp[World.setBlk]; exact hs0
    have ho1: ∀b',b'<w.heap.size→hp (World.setBlk A0 w.heap.size (zi ROW (i*2) vsV) 123).drew b'=hp w b':=fun b' h=>(zbp (w:=A0) (by omega)).trans (ho0 b' h)
    have hi1':zby (World.setBlk A0 w.heap.size (zi ROW (i*2) vsV) 123).drew=zby w:=hi0';generalize (World.setBlk A0 w.heap.size (zi ROW (i*2) vsV) 123).drew=A1 at hw2 hA1 hs1 ho1 hi1';rw[yha _ _ _ _ hA1 (by rw[za3]; omega)]at hw2;subst hw2;have hBn:hp (World.setBlk A1 w.heap.size (zi (zi ROW (i*2) vsV) ((i+1)*2) (vs0.drop (i*2))) 123) w.heap.size=some (.cells (zi (zi ROW (i*2) vsV) ((i+1)*2) (vs0.drop (i*2))) 123 (0,0)):=zbo (by omega);have oth: ∀b',b'<w.heap.size→hp (World.setBlk A1 w.heap.size (zi (zi ROW (i*2) vsV) ((i+1)*2) (vs0.drop (i*2))) 123) b'=hp w b':=fun b' h=>(zbp (by omega)).trans (ho1 b' h)
    have hsz2:(World.setBlk A1 w.heap.size (zi (zi ROW (i*2) vsV) ((i+1)*2) (vs0.drop (i*2))) 123).heap.size=w.heap.size+1:=by simp[World.setBlk]<;>exact hs1
    refine yDg (B:=w.heap.size) hi1' (by omega) (.inl ⟨Nat.le_refl _,by omega⟩) (fun hz=>by have:=hlow _ (.inl hz); omega) (fun b' hb' _=>oth b' hb') (yGE (i:=i)) hgn hgs hgm2 ?_;refine yGF (h:=hp w) (vs0:=vs0) (i:=i) e0' eV' hi (fun b' hb'=>oth b' (hlow b' (.inl hb'))) (fun x hx=>oth x (hgl x hx)) hBn (by rw[za3,za3]; omega) hGn hbnd ?_;refine yNu hBn hl0 hvl hi (fun j hj=> ?_) (fun j hj=> ?_) (fun j hj=> ?_)
    ·rw[zah _ _ _ _ (by rw[za3]; omega),zah _ _ _ _ (by omega),if_neg (by omega),if_neg (by omega),Nat.zero_add,hRg j hj]
    ·rw[zah _ _ _ _ (by rw[za3]; omega),if_neg (by omega),zah _ _ _ _ (by omega),if_pos (by omega)]
     exact yJX (by omega)
    ·rw[zah _ _ _ _ (by rw[za3]; omega),if_pos (by omega),List.getElem?_drop]
     exact yJX (by omega)
theorem y3H:ConOk prog 137 yKY where
 fn:=⟨_,func137,by kernel_rfl,by kernel_rfl⟩
 run:=fun w Z R xs args fs r ha hF hz hnd hfr=>by
  obtain⟨l,i,v,_⟩:=xs;rcases args with _ | ⟨a0,_ | ⟨a1,_ | ⟨a2,_ | ⟨a3,t⟩⟩⟩⟩<;>rcases fs with _ | ⟨f0,_ | ⟨f1,_ | ⟨f2,_ | ⟨f3,u⟩⟩⟩⟩<;>try (simp[ArgsOk,yKY]at ha; done)
  obtain⟨⟨cs0,rfl,o0⟩,⟨cs1,rfl,hi1⟩,rfl,⟨cs2,rfl,o2⟩,_⟩:=ha;obtain⟨rfl,hif⟩:=hi1;have hF':(bif ya5 l i v then some (((yhl l i v,()),()):zaY yhe×zak yhc)else none)=some r:=hF;cases hq:ya5 l i v with
  | false=>rw[hq]at hF'; cases hF'
  | true =>
   rw[hq]at hF';obtain rfl:=Option.some.inj hF';simp only[ya5,Bool.and_eq_true]at hq;obtain⟨i0,i1,hv1,hbnd⟩:=hq;have i0:=zj7.1 i0;have i1:=zj7.1 i1;have hv1:=beq_iff_eq.1 hv1;have hbnd:=of_decide_eq_true hbnd;obtain⟨k,hk⟩: ∃k:Nat,i=(k:Int):=⟨Int.toNat i,(Int.toNat_of_nonneg i0).symm⟩;subst hk
   have hone: ∃x:dW,v= [x]:=by
    have hv1:List.length (α:=dW) v=1:=hv1
    match v,hv1 with
    | [x],_=>exact⟨x,rfl⟩
   obtain⟨x,rfl⟩:=hone;have hl1:=Own.len o0;have hl2:=Own.len o2;obtain⟨a0,rfl⟩:=List.length_eq_one_iff.1 hl1;obtain⟨a2,rfl⟩:=List.length_eq_one_iff.1 hl2;have hfe:([f0,[],f2]:List (List Nat)).flatten=f0++f2:=by simp
   rw[hfe]at hnd hfr;exact y3e w Z R l k x a0 a2 f0 f2 o0 o2 (by have:=i1; omega) hbnd hz hnd hfr
def yaw (a0:List dW) (a1:Int) (a2:List dW):Option (zaY yhe×zak yhc):=bif ya5 a0 a1 a2 then(fun n=>some ((n,()),())) (yhl a0 a1 a2)else none
theorem yHO (a0:List dW) (a1:Int) (a2:List dW) (h:ya5 a0 a1 a2=true):yaw a0 a1 a2=(fun n=>some ((n,()),())) (yhl a0 a1 a2):=by unfold yaw; rw[h]; rfl
def yr2:Con:=⟨yhc,yhe,fun x=>yaw x.1 x.2.1 x.2.2.1⟩
theorem yHL:ConOk prog 137 yr2:=y3H
def ymc:Code:=(f62.body).getD .skip
def ysE:Env:=zkw TT [(59,ype),(60,yq2),(95,ygS),(134,ynr),(135,ytU),(136,yq3),(137,yr2)] []
theorem yJx:FrOk prog ⟨ysE,98,fun _=>none⟩ ymc:=zkA mixed yc ⟨yDu,yE8,ym2,yAQ,yGQ,yE9,yHL,trivial⟩
def yzS:Nat→Option Seg:=fun _=>none
def yaO:Shape:=⟨[(6,false,[.ptr 64 0]),(8,false,[.ptr 4224 0]),(10,false,[.int .i64]),(11,false,[.at 800000000]),(13,false,[.int .i64])],[(64,[.int .i64,.int .i64,.int .i64,.nil,.int .i64,.int .i64,.int .i64,.int .i64,.int .i64,.nil,.int .i64,.bool,.bool]),(4224,[.int .i64,.int .i64,.int .i64,.at 800000001,.int .i64,.int .i64,.int .i64,.int .i64,.int .i64,.at 800000002,.int .i64,.bool,.bool])],[(800000000,tI,.fz),(800000001,tM,(.pr (.ow (.ow .fz)) (.pr (.ow (.pr .fz (.ow .fz))) (.pr .fz (.ow .fz))))),(800000002,tW,(.pr .fz (.ow .fz)))]⟩
def ydC:Shape:=⟨[(6,false,[.ptr 64 0]),(8,false,[.ptr 4224 0]),(10,false,[.int .i64]),(11,false,[.at 800000000]),(13,false,[.ci .i64 0])],[(64,[.int .i64,.int .i64,.int .i64,.nil,.int .i64,.int .i64,.int .i64,.int .i64,.int .i64,.nil,.int .i64,.bool,.bool]),(4224,[.int .i64,.int .i64,.int .i64,.at 800000001,.int .i64,.int .i64,.int .i64,.int .i64,.int .i64,.at 800000002,.int .i64,.bool,.bool])],[(800000000,tI,.fz),(800000001,tM,(.pr (.ow (.ow .fz)) (.pr (.ow (.pr .fz (.ow .fz))) (.pr .fz (.ow .fz))))),(800000002,tW,(.pr .fz (.ow .fz)))]⟩
def ydy:Shape:=⟨[(6,false,[.ptr 64 0]),(8,false,[.ptr 4224 0]),(10,false,[.int .i64]),(11,false,[.at 800000000]),(13,false,[.int .i64])],[(64,[.int .i64,.int .i64,.int .i64,.nil,.int .i64,.int .i64,.int .i64,.int .i64,.int .i64,.nil,.int .i64,.bool,.bool]),(4224,[.int .i64,.int .i64,.int .i64,.at 800000001,.int .i64,.int .i64,.int .i64,.int .i64,.int .i64,.at 800000002,.int .i64,.bool,.bool])],[(800000000,tI,.fz),(800000001,tM,(.pr (.ow (.ow .fz)) (.pr (.ow (.pr .fz (.ow .fz))) (.pr .fz (.ow .fz))))),(800000002,tW,(.pr .fz (.ow .fz)))]⟩
def ygc:Shape:=⟨[],[],[]⟩
abbrev yjN (v0 v1:Int) (v2 v3:dA) (v4:List Int):(yaO).X:=((((),()),((),()),(v0,()),((),()),(v1,()),()),((v2.1,v2.2.1.1,v2.2.1.2,(),v2.2.2.2.1,v2.2.2.2.2.1,v2.2.2.2.2.2.1,v2.2.2.2.2.2.2.1,v2.2.2.2.2.2.2.2.1,(),v2.2.2.2.2.2.2.2.2.2.1,v2.2.2.2.2.2.2.2.2.2.2.1,v2.2.2.2.2.2.2.2.2.2.2.2,()),(v3.1,v3.2.1.1,v3.2.1.2,(),v3.2.2.2.1,v3.2.2.2.2.1,v3.2.2.2.2.2.1,v3.2.2.2.2.2.2.1,v3.2.2.2.2.2.2.2.1,(),v3.2.2.2.2.2.2.2.2.2.1,v3.2.2.2.2.2.2.2.2.2.2.1,v3.2.2.2.2.2.2.2.2.2.2.2,()),()),(v4,v3.2.2.1,v3.2.2.2.2.2.2.2.2.1,()))
abbrev yGJ (v0:Int) (v1 v2:dA) (v3:List Int):(ydC).X:=((((),()),((),()),(v0,()),((),()),((),()),()),((v1.1,v1.2.1.1,v1.2.1.2,(),v1.2.2.2.1,v1.2.2.2.2.1,v1.2.2.2.2.2.1,v1.2.2.2.2.2.2.1,v1.2.2.2.2.2.2.2.1,(),v1.2.2.2.2.2.2.2.2.2.1,v1.2.2.2.2.2.2.2.2.2.2.1,v1.2.2.2.2.2.2.2.2.2.2.2,()),(v2.1,v2.2.1.1,v2.2.1.2,(),v2.2.2.2.1,v2.2.2.2.2.1,v2.2.2.2.2.2.1,v2.2.2.2.2.2.2.1,v2.2.2.2.2.2.2.2.1,(),v2.2.2.2.2.2.2.2.2.2.1,v2.2.2.2.2.2.2.2.2.2.2.1,v2.2.2.2.2.2.2.2.2.2.2.2,()),()),(v3,v2.2.2.1,v2.2.2.2.2.2.2.2.2.1,()))
abbrev yjR (v0 v1:Int) (v2 v3:dA) (v4:List Int):(ydy).X:=((((),()),((),()),(v0,()),((),()),(v1,()),()),((v2.1,v2.2.1.1,v2.2.1.2,(),v2.2.2.2.1,v2.2.2.2.2.1,v2.2.2.2.2.2.1,v2.2.2.2.2.2.2.1,v2.2.2.2.2.2.2.2.1,(),v2.2.2.2.2.2.2.2.2.2.1,v2.2.2.2.2.2.2.2.2.2.2.1,v2.2.2.2.2.2.2.2.2.2.2.2,()),(v3.1,v3.2.1.1,v3.2.1.2,(),v3.2.2.2.1,v3.2.2.2.2.1,v3.2.2.2.2.2.1,v3.2.2.2.2.2.2.1,v3.2.2.2.2.2.2.2.1,(),v3.2.2.2.2.2.2.2.2.2.1,v3.2.2.2.2.2.2.2.2.2.2.1,v3.2.2.2.2.2.2.2.2.2.2.2,()),()),(v4,v3.2.2.1,v3.2.2.2.2.2.2.2.2.1,()))
def ykj (v0 v1 v2 v3 v4 v5 v6 v7 v8 v9 v10:Int) (v11 v12:Bool) (v13 v14 v15 v16 v17 v18 v19 v20 v21:Int) (v22 v23:Bool) (v24:List Int) (v25:List dM) (v26:List dW):Option ((yaO).X ⊕ ((ydy).X ⊕ (ygc).X)) :=bif(ltb v1 (v26.length:Int))then bif(inb v1 v26.length)then bif(ltb ((nth v26 v1 (0,[])).1) v0)then some (.inl ((((),()),((),()),(v0,()),((),()),((i64.wrap (v1+1)),()),()),((v2,v3,v4,(),v5,v6,v7,v8,v9,(),v10,v11,v12,()),(v13,v14,v15,(),v16,v17,v18,v19,v20,(),v21,v22,v23,()),()),(v24,v25,v26,()))) else some (.inr (.inl ((((),()),((),()),(v0,()),((),()),(v1,()),()),((v2,v3,v4,(),v5,v6,v7,v8,v9,(),v10,v11,v12,()),(v13,v14,v15,(),v16,v17,v18,v19,v20,(),v21,v22,v23,()),()),(v24,v25,v26,())))) else none else some (.inr (.inl ((((),()),((),()),(v0,()),((),()),(v1,()),()),((v2,v3,v4,(),v5,v6,v7,v8,v9,(),v10,v11,v12,()),(v13,v14,v15,(),v16,v17,v18,v19,v20,(),v21,v22,v23,()),()),(v24,v25,v26,()))))
def yaW (x:(yaO).X):=ykj x.1.2.2.1.1 x.1.2.2.2.2.1.1 x.2.1.1.1 x.2.1.1.2.1 x.2.1.1.2.2.1 x.2.1.1.2.2.2.2.1 x.2.1.1.2.2.2.2.2.1 x.2.1.1.2.2.2.2.2.2.1 x.2.1.1.2.2.2.2.2.2.2.1 x.2.1.1.2.2.2.2.2.2.2.2.1 x.2.1.1.2.2.2.2.2.2.2.2.2.2.1 x.2.1.1.2.2.2.2.2.2.2.2.2.2.2.1 x.2.1.1.2.2.2.2.2.2.2.2.2.2.2.2.1 x.2.1.2.1.1 x.2.1.2.1.2.1 x.2.1.2.1.2.2.1 x.2.1.2.1.2.2.2.2.1 x.2.1.2.1.2.2.2.2.2.1 x.2.1.2.1.2.2.2.2.2.2.1 x.2.1.2.1.2.2.2.2.2.2.2.1 x.2.1.2.1.2.2.2.2.2.2.2.2.1 x.2.1.2.1.2.2.2.2.2.2.2.2.2.2.1 x.2.1.2.1.2.2.2.2.2.2.2.2.2.2.2.1 x.2.1.2.1.2.2.2.2.2.2.2.2.2.2.2.2.1 x.2.2.1 x.2.2.2.1 x.2.2.2.2.1
def yr6 (x:(ydC).X):(yaO).X:=((((),()),((),()),(x.1.2.2.1.1,()),((),()),(0,()),()),((x.2.1.1.1,x.2.1.1.2.1,x.2.1.1.2.2.1,(),x.2.1.1.2.2.2.2.1,x.2.1.1.2.2.2.2.2.1,x.2.1.1.2.2.2.2.2.2.1,x.2.1.1.2.2.2.2.2.2.2.1,x.2.1.1.2.2.2.2.2.2.2.2.1,(),x.2.1.1.2.2.2.2.2.2.2.2.2.2.1,x.2.1.1.2.2.2.2.2.2.2.2.2.2.2.1,x.2.1.1.2.2.2.2.2.2.2.2.2.2.2.2.1,()),(x.2.1.2.1.1,x.2.1.2.1.2.1,x.2.1.2.1.2.2.1,(),x.2.1.2.1.2.2.2.2.1,x.2.1.2.1.2.2.2.2.2.1,x.2.1.2.1.2.2.2.2.2.2.1,x.2.1.2.1.2.2.2.2.2.2.2.1,x.2.1.2.1.2.2.2.2.2.2.2.2.1,(),x.2.1.2.1.2.2.2.2.2.2.2.2.2.2.1,x.2.1.2.1.2.2.2.2.2.2.2.2.2.2.2.1,x.2.1.2.1.2.2.2.2.2.2.2.2.2.2.2.2.1,()),()),(x.2.2.1,x.2.2.2.1,x.2.2.2.2.1,()))
def ytJ:Code:=(zd7 ymc 64 16376).getD .skip
theorem yHe:zd7 ymc 64 4094=some (.block 0 (.loop ytJ)):=by kernel_rfl
theorem yHR (x:(yaO).X):zhu ⟨ysE,98,yzS⟩ 0 ytJ 16376 yaO ydy ygc x=yaW x:=by kernel_rfl
def ysa (x:(ydC).X):Nat:=18446744073709551616
def yf8 (x:(ydC).X):Option ((ydy).X ⊕ (ygc).X):=zF yaW (ysa x) (yr6 x)
def ysh:Seg:=⟨ydC,ydy,ygc,yf8⟩
def yLi:Nat→Option Seg:=fun q=>bif Nat.beq q 4094 then some ysh else yzS q
theorem yJy:FrOk prog ⟨ysE,98,yLi⟩ ymc:=(yJx).loop (sg:=ysh) yaO yr6 (by decide) yHe yaW ysa (by decide) (fun _=>rfl) (fun x r _ h=>h) yHR
abbrev ymp:List Par:= [.rd tA,.rd tI,.rd tI]
abbrev ytn:List OT:= [⟨false,tA,(.pr .fz (.pr (.pr .fz .fz) (.pr (.ow (.pr (.ow (.ow .fz)) (.pr (.ow (.pr .fz (.ow .fz))) (.pr .fz (.ow .fz))))) (.pr .fz (.pr .fz (.pr .fz (.pr .fz (.pr .fz (.pr (.ow (.pr .fz (.ow .fz))) (.pr .fz (.pr .fz .fz)))))))))))⟩,⟨false,tI,.fz⟩]
def ypC (a0:dA) (a1 a2:Int):Option (zaY ytn×zak ymp) :=let r1:=yL a0;let r2:=yew a0 a1;bif(r2==0)then let r3:=yai a2;bif(!r3)then some ((r1,3,()),()) else bif(r2 !=0)then some ((r1,r2,()),()) else let r4:=yb9 a0.2.1 a1;let r5:=yc3 a0 r4;bif(!r5.2)then some ((r1,5,()),()) else let r6:=yc2 a0.2.1 a1;bif(inb r6 r5.1.length)then zkt (yf8 ((((),()),((),()),(r4,()),((),()),((),()),()),((0,0,0,(),0,0,0,0,0,(),0,false,false,()),(r1.1,r1.2.1.1,r1.2.1.2,(),r1.2.2.2.1,r1.2.2.2.2.1,r1.2.2.2.2.2.1,r1.2.2.2.2.2.2.1,r1.2.2.2.2.2.2.2.1,(),r1.2.2.2.2.2.2.2.2.2.1,r1.2.2.2.2.2.2.2.2.2.2.1,r1.2.2.2.2.2.2.2.2.2.2.2,()),()),((r5.1.set (r6).toNat a2),r1.2.2.1,r1.2.2.2.2.2.2.2.2.1,()))) (fun y6 =>bif(ltb y6.1.2.2.2.2.1.1 (y6.2.2.2.2.1.length:Int))then bif(inb y6.1.2.2.2.2.1.1 y6.2.2.2.2.1.length)then bif((nth y6.2.2.2.2.1 y6.1.2.2.2.2.1.1 (0,[])).1==y6.1.2.2.1.1)then bif(inb y6.1.2.2.2.2.1.1 y6.2.2.2.2.1.length)then let r8:=(y6.2.2.2.2.1.set (y6.1.2.2.2.2.1.1).toNat ((nth y6.2.2.2.2.1 y6.1.2.2.2.2.1.1 (0,[])).1,y6.2.2.1));some (((y6.2.1.2.1.1,(y6.2.1.2.1.2.1,y6.2.1.2.1.2.2.1),y6.2.2.2.1,y6.2.1.2.1.2.2.2.2.1,y6.2.1.2.1.2.2.2.2.2.1,y6.2.1.2.1.2.2.2.2.2.2.1,y6.2.1.2.1.2.2.2.2.2.2.2.1,y6.2.1.2.1.2.2.2.2.2.2.2.2.1,r8,y6.2.1.2.1.2.2.2.2.2.2.2.2.2.2.1,y6.2.1.2.1.2.2.2.2.2.2.2.2.2.2.2.1,y6.2.1.2.1.2.2.2.2.2.2.2.2.2.2.2.2.1),0,()),()) else none else bnd (yaw y6.2.2.2.2.1 y6.1.2.2.2.2.1.1 ([(y6.1.2.2.1.1,y6.2.2.1)]:List dW)) fun r9 =>some (((y6.2.1.2.1.1,(y6.2.1.2.1.2.1,y6.2.1.2.1.2.2.1),y6.2.2.2.1,y6.2.1.2.1.2.2.2.2.1,y6.2.1.2.1.2.2.2.2.2.1,y6.2.1.2.1.2.2.2.2.2.2.1,y6.2.1.2.1.2.2.2.2.2.2.2.1,y6.2.1.2.1.2.2.2.2.2.2.2.2.1,r9.1.1,y6.2.1.2.1.2.2.2.2.2.2.2.2.2.2.1,y6.2.1.2.1.2.2.2.2.2.2.2.2.2.2.2.1,y6.2.1.2.1.2.2.2.2.2.2.2.2.2.2.2.2.1),0,()),()) else none else bnd (yaw y6.2.2.2.2.1 y6.1.2.2.2.2.1.1 ([(y6.1.2.2.1.1,y6.2.2.1)]:List dW)) fun r10 =>some (((y6.2.1.2.1.1,(y6.2.1.2.1.2.1,y6.2.1.2.1.2.2.1),y6.2.2.2.1,y6.2.1.2.1.2.2.2.2.1,y6.2.1.2.1.2.2.2.2.2.1,y6.2.1.2.1.2.2.2.2.2.2.1,y6.2.1.2.1.2.2.2.2.2.2.2.1,y6.2.1.2.1.2.2.2.2.2.2.2.2.1,r10.1.1,y6.2.1.2.1.2.2.2.2.2.2.2.2.2.2.1,y6.2.1.2.1.2.2.2.2.2.2.2.2.2.2.2.1,y6.2.1.2.1.2.2.2.2.2.2.2.2.2.2.2.2.1),0,()),())) (fun y6 =>none) else none else bif(r2 !=0)then some ((r1,r2,()),()) else let r11:=yb9 a0.2.1 a1;let r12:=yc3 a0 r11;bif(!r12.2)then some ((r1,5,()),()) else let r13:=yc2 a0.2.1 a1;bif(inb r13 r12.1.length)then zkt (yf8 ((((),()),((),()),(r11,()),((),()),((),()),()),((0,0,0,(),0,0,0,0,0,(),0,false,false,()),(r1.1,r1.2.1.1,r1.2.1.2,(),r1.2.2.2.1,r1.2.2.2.2.1,r1.2.2.2.2.2.1,r1.2.2.2.2.2.2.1,r1.2.2.2.2.2.2.2.1,(),r1.2.2.2.2.2.2.2.2.2.1,r1.2.2.2.2.2.2.2.2.2.2.1,r1.2.2.2.2.2.2.2.2.2.2.2,()),()),((r12.1.set (r13).toNat a2),r1.2.2.1,r1.2.2.2.2.2.2.2.2.1,()))) (fun y13 =>bif(ltb y13.1.2.2.2.2.1.1 (y13.2.2.2.2.1.length:Int))then bif(inb y13.1.2.2.2.2.1.1 y13.2.2.2.2.1.length)then bif((nth y13.2.2.2.2.1 y13.1.2.2.2.2.1.1 (0,[])).1==y13.1.2.2.1.1)then bif(inb y13.1.2.2.2.2.1.1 y13.2.2.2.2.1.length)then let r15:=(y13.2.2.2.2.1.set (y13.1.2.2.2.2.1.1).toNat ((nth y13.2.2.2.2.1 y13.1.2.2.2.2.1.1 (0,[])).1,y13.2.2.1));some (((y13.2.1.2.1.1,(y13.2.1.2.1.2.1,y13.2.1.2.1.2.2.1),y13.2.2.2.1,y13.2.1.2.1.2.2.2.2.1,y13.2.1.2.1.2.2.2.2.2.1,y13.2.1.2.1.2.2.2.2.2.2.1,y13.2.1.2.1.2.2.2.2.2.2.2.1,y13.2.1.2.1.2.2.2.2.2.2.2.2.1,r15,y13.2.1.2.1.2.2.2.2.2.2.2.2.2.2.1,y13.2.1.2.1.2.2.2.2.2.2.2.2.2.2.2.1,y13.2.1.2.1.2.2.2.2.2.2.2.2.2.2.2.2.1),0,()),()) else none else bnd (yaw y13.2.2.2.2.1 y13.1.2.2.2.2.1.1 ([(y13.1.2.2.1.1,y13.2.2.1)]:List dW)) fun r16 =>some (((y13.2.1.2.1.1,(y13.2.1.2.1.2.1,y13.2.1.2.1.2.2.1),y13.2.2.2.1,y13.2.1.2.1.2.2.2.2.1,y13.2.1.2.1.2.2.2.2.2.1,y13.2.1.2.1.2.2.2.2.2.2.1,y13.2.1.2.1.2.2.2.2.2.2.2.1,y13.2.1.2.1.2.2.2.2.2.2.2.2.1,r16.1.1,y13.2.1.2.1.2.2.2.2.2.2.2.2.2.2.1,y13.2.1.2.1.2.2.2.2.2.2.2.2.2.2.2.1,y13.2.1.2.1.2.2.2.2.2.2.2.2.2.2.2.2.1),0,()),()) else none else bnd (yaw y13.2.2.2.2.1 y13.1.2.2.2.2.1.1 ([(y13.1.2.2.1.1,y13.2.2.1)]:List dW)) fun r17 =>some (((y13.2.1.2.1.1,(y13.2.1.2.1.2.1,y13.2.1.2.1.2.2.1),y13.2.2.2.1,y13.2.1.2.1.2.2.2.2.1,y13.2.1.2.1.2.2.2.2.2.1,y13.2.1.2.1.2.2.2.2.2.2.1,y13.2.1.2.1.2.2.2.2.2.2.2.1,y13.2.1.2.1.2.2.2.2.2.2.2.2.1,r17.1.1,y13.2.1.2.1.2.2.2.2.2.2.2.2.2.2.1,y13.2.1.2.1.2.2.2.2.2.2.2.2.2.2.2.1,y13.2.1.2.1.2.2.2.2.2.2.2.2.2.2.2.2.1),0,()),())) (fun y13 =>none) else none
theorem yMS:ConOk prog 62 ⟨ymp,ytn,fun x=>ypC x.1 x.2.1 x.2.2.1⟩:=zkI (yJy) func62 ntmps62.symm fun x=>by kernel_rfl
def yix (a0:dA) (a1 a2:Int):dA×Int:=yUs a0 a1 a2
theorem yPG (a0:dA) (a1 a2:Int) (hk:zjx ymp (a0,a1,a2,())):ypC a0 a1 a2=(fun n=>some ((n.1,n.2,()),())) (yix a0 a1 a2):=by
 unfold ypC yix yUs;simp only[yL,yJY,yZR,show y9 a2=isW a2 by unfold y9; rw[yb6]; rfl];cases hc:(yb4 a0 a1==0)
 ·have:(yb4 a0 a1 !=0)=true:=bne_iff_ne.2 (beq_eq_false_iff_ne.1 hc)
  rw[this]; rfl
 ·have hc:=beq_iff_eq.1 hc
  obtain⟨ha,hb,_⟩:=yW1 hc;have hs:=ygg hb;obtain⟨_,_,hi⟩:=ye1 hb;have hdl:=yis (yxd ha) (yb3 ha);rw[hc];cases isW a2
  ·rfl
  ·unfold ybB
   simp only[yb9,yc2,yRP ha hs,y2L ha];cases hn:(ym a0 (yp a0.2.1 a1)).2
   ·rfl
   ·have hl:=yhw ha hs hn
    have hx:yC a0.2.1 a1=a1.tmod (a0.2.1.1-1):=by unfold yC; rw[hb]; rfl
    rw[zj6.2 (show 0≤yC a0.2.1 a1∧yC a0.2.1 a1<(ym a0 (yp a0.2.1 a1)).1.length by omega)];generalize (ym a0 (yp a0.2.1 a1)).1.set (yC a0.2.1 a1).toNat a2=D;generalize yp a0.2.1 a1=s
    have hF:yf8 (yGJ s ycC a0 D)=some (.inl (yjR s (ypu a0.2.2.2.2.2.2.2.2.1 s) ycC a0 D)):=by
     refine(yE6 (step:=yaW) a0.2.2.2.2.2.2.2.2.1 (0,[]) (fun i=>yjN s i ycC a0 D) (fun e:dW=> !ltb e.1 s) (fun i=> .inl (yjR s i ycC a0 D)) (.inl (yjR s (a0.2.2.2.2.2.2.2.2.1.length:Int) ycC a0 D)) (fun i hi=>by
      simp only[yaW,yjN,ykj,zky (show(i:Int)<a0.2.2.2.2.2.2.2.2.1.length by omega),cond_true,wq ((i:Int)+1) (by omega) (by omega),Int.natCast_add,Int.natCast_one,Int.toNat_natCast,zkR hi,zkS]
      cases ltb (a0.2.2.2.2.2.2.2.2.1.getD i (0,[])).1 s<;>rfl) (by simp only[yaW,yjN,ykj,zk3 (Int.le_refl _),cond_false]) 18446744073709551616 (by omega)).trans ?_
     unfold ypu;cases leb 0 (yU (fun x:dW=> !ltb x.1 s) a0.2.2.2.2.2.2.2.2.1)<;>rfl
    have hp:=y1Z a0.2.2.2.2.2.2.2.2.1 s
    have hI: ∀P,0≤P∧P≤(a0.2.2.2.2.2.2.2.2.1.length:Int)→yaw a0.2.2.2.2.2.2.2.2.1 P [(s,D)]=some ((a0.2.2.2.2.2.2.2.2.1.take P.toNat++ [(s,D)]++a0.2.2.2.2.2.2.2.2.1.drop P.toNat,()),()):=fun P hP=>yHO _ _ _ (by
     unfold ya5;rw[zk2 hP.1,zk2 hP.2]
     exact decide_eq_true (show(a0.2.2.2.2.2.2.2.2.1.length+1)*32≤2^47 by omega))
    simp only[Bool.not_true,bne_self_eq_false,cond_true,cond_false];refine(congrArg (fun z=>zkt z _ _) hF).trans ?_;simp only[zkN,zkX];unfold y1q;generalize ypu a0.2.2.2.2.2.2.2.2.1 s=P at hp ⊢;have hI:=hI P hp;cases h1:ltb P (a0.2.2.2.2.2.2.2.2.1.length:Int)
    ·simp only[cond_false,hI]; rfl
    ·have hin:=zj6.2 (⟨hp.1,zka.1 h1⟩:0≤P∧P<(a0.2.2.2.2.2.2.2.2.1.length:Int))
     simp only[hin,cond_true];cases((nth a0.2.2.2.2.2.2.2.2.1 P (0,[])).1==s)
     ·simp only[cond_false,hI]; rfl
     ·rfl
def yAi:Con:=⟨ymp,ytn,fun x=>(fun n=>some ((n.1,n.2,()),())) (yix x.1 x.2.1 x.2.2.1)⟩
theorem yQu:ConOk prog 62 yAi:=(yMS).mono (fun x r hk h=>(yPG x.1 x.2.1 x.2.2.1 hk).trans h)
def yXz:Code:=(f88.body).getD .skip
def yX4:Env:=zkw TT [] []
theorem yOi:FrOk prog ⟨yX4,8,fun _=>none⟩ yXz:=zkA mixed yc trivial
abbrev yyG:List Par:= [.rd tI]
abbrev yy5:List OT:= [⟨false,tI,.fz⟩]
def yFj (a0:Int):Option (zaY yy5×zak yyG) :=bif(ltb a0 0)then some (((-1),()),()) else some (((i64.wrap (2+(a0.tmod 4))),()),())
theorem yTk:ConOk prog 88 ⟨yyG,yy5,fun x=>yFj x.1⟩:=zkI (yOi) func88 ntmps88.symm fun x=>by kernel_rfl
def yqz (a0:Int):Int :=bif(ltb a0 0)then (-1) else (i64.wrap (2+(a0.tmod 4)))
def yEB:Con:=⟨yyG,yy5,fun x=>(fun n=>some ((n,()),())) (yqz x.1)⟩
theorem yVE (a0:Int):yFj a0=(fun n=>some ((n,()),())) (yqz a0):=zkV (p:=fun(n:Int)=>((n,()),())) (zkG (p:=fun(n:Int)=>((n,()),())) rfl rfl)
theorem yWw:ConOk prog 88 yEB:=(yTk).mono (fun x r _ h=>(yVE x.1).trans h)
theorem yZQ (q:Int):yqz q=yT q:=rfl
def yXt:Code:=(f192.body).getD .skip
def yXY:Env:=zkw TT [] []
theorem yOa:FrOk prog ⟨yXY,26,fun _=>none⟩ yXt:=zkA mixed yc trivial
abbrev yyD:List Par:= [.pt tA (.pr .fz (.pr (.pr .fz .fz) (.pr (.ow (.pr (.ow (.ow .fz)) (.pr (.ow (.pr .fz (.ow .fz))) (.pr .fz (.ow .fz))))) (.pr .fz (.pr .fz (.pr .fz (.pr .fz (.pr .fz (.pr (.ow (.pr .fz (.ow .fz))) (.pr .fz (.pr .fz .fz)))))))))))]
abbrev yyY:List OT:= [⟨false,tB,.fz⟩]
def yFg (a0:dA):Option (zaY yyY×zak yyD) :=bif(a0.2.2.2.2.2.2.2.2.2.1==0)then some ((false,()),((a0.1,a0.2.1,a0.2.2.1,a0.2.2.2.1,a0.2.2.2.2.1,a0.2.2.2.2.2.1,a0.2.2.2.2.2.2.1,a0.2.2.2.2.2.2.2.1,a0.2.2.2.2.2.2.2.2.1,(-1),true,a0.2.2.2.2.2.2.2.2.2.2.2),())) else bif(ltb 0 a0.2.2.2.2.2.2.2.2.2.1)then some ((true,()),((a0.1,a0.2.1,a0.2.2.1,a0.2.2.2.1,a0.2.2.2.2.1,a0.2.2.2.2.2.1,a0.2.2.2.2.2.2.1,a0.2.2.2.2.2.2.2.1,a0.2.2.2.2.2.2.2.2.1,(i64.wrap (a0.2.2.2.2.2.2.2.2.2.1-1)),a0.2.2.2.2.2.2.2.2.2.2),())) else some ((true,()),(a0,()))
theorem yTd:ConOk prog 192 ⟨yyD,yyY,fun x=>yFg x.1⟩:=zkI (yOa) func192 ntmps192.symm fun x=>by kernel_rfl
def yhs (a0:dA):Bool×dA :=bif(a0.2.2.2.2.2.2.2.2.2.1==0)then (false,(a0.1,a0.2.1,a0.2.2.1,a0.2.2.2.1,a0.2.2.2.2.1,a0.2.2.2.2.2.1,a0.2.2.2.2.2.2.1,a0.2.2.2.2.2.2.2.1,a0.2.2.2.2.2.2.2.2.1,(-1),true,a0.2.2.2.2.2.2.2.2.2.2.2)) else bif(ltb 0 a0.2.2.2.2.2.2.2.2.2.1)then (true,(a0.1,a0.2.1,a0.2.2.1,a0.2.2.2.1,a0.2.2.2.2.1,a0.2.2.2.2.2.1,a0.2.2.2.2.2.2.1,a0.2.2.2.2.2.2.2.1,a0.2.2.2.2.2.2.2.2.1,(i64.wrap (a0.2.2.2.2.2.2.2.2.2.1-1)),a0.2.2.2.2.2.2.2.2.2.2)) else (true,a0)
def ytL:Con:=⟨yyD,yyY,fun x=>(fun n=>some ((n.1,()),(n.2,()))) (yhs x.1)⟩
theorem yVx (a0:dA):yFg a0=(fun n=>some ((n.1,()),(n.2,()))) (yhs a0):=zkV (p:=fun(n:Bool×dA)=>((n.1,()),(n.2,()))) (zkG (p:=fun(n:Bool×dA)=>((n.1,()),(n.2,()))) rfl (zkG (p:=fun(n:Bool×dA)=>((n.1,()),(n.2,()))) rfl rfl))
theorem yGK:ConOk prog 192 ytL:=(yTd).mono (fun x r _ h=>(yVx x.1).trans h)
theorem ySB {a:dA} (h:ya a=false):yhs a=opA a:=by
 unfold yhs opA;rw[h];cases(a.2.2.2.2.2.2.2.2.2.1==0)
 ·cases ltb 0 a.2.2.2.2.2.2.2.2.2.1
  ·rfl
  ·show(true,_)=(true,yZd a _ false)
   unfold yZd;rw[show a.2.2.2.2.2.2.2.2.2.2=(ya a,a.2.2.2.2.2.2.2.2.2.2.2)from rfl,h]
 ·rfl
def yLb:Code:=(f223.body).getD .skip
def yLr:Env:=zkw TT [] []
theorem yHp:FrOk prog ⟨yLr,7,fun _=>none⟩ yLb:=zkA mixed yc trivial
abbrev yo7:List Par:= [.rd tI,.rp tI]
abbrev ypa:List OT:= [⟨false,tB,.fz⟩]
def yvr (a0 a1:Int):Option (zaY ypa×zak yo7) :=some (((a0==a1),()),())
theorem yIH:ConOk prog 223 ⟨yo7,ypa,fun x=>yvr x.1 x.2.1⟩:=zkI (yHp) func223 ntmps223.symm fun x=>by kernel_rfl
def ydN (a0 a1:Int):Bool :=(a0==a1)
def ylJ:Con:=⟨yo7,ypa,fun x=>(fun n=>some ((n,()),())) (ydN x.1 x.2.1)⟩
theorem yKn (a0 a1:Int):yvr a0 a1=(fun n=>some ((n,()),())) (ydN a0 a1):=zkV (p:=fun(n:Bool)=>((n,()),())) rfl
theorem yyc:ConOk prog 223 ylJ:=(yIH).mono (fun x r _ h=>(yKn x.1 x.2.1).trans h)
def yeC:Code:=(f244.body).getD .skip
def yiM:Env:=zkw TT [(223,ylJ)] []
theorem yBb:FrOk prog ⟨yiM,19,fun _=>none⟩ yeC:=zkA mixed yc ⟨yyc,trivial⟩
def ym6:Nat→Option Seg:=fun _=>none
def yac:Shape:=⟨[(0,false,[.br tI]),(1,false,[.fx 223 tI]),(7,false,[.int .i64]),(8,false,[.int .i64])],[],[]⟩
def ya9:Shape:=⟨[(0,false,[.br tI]),(1,false,[.fx 223 tI]),(7,false,[.int .i64]),(8,false,[.ci .i64 0])],[],[]⟩
def ya7:Shape:=⟨[],[],[]⟩
def ybb:Shape:=⟨[(4,false,[.int .i64])],[],[]⟩
abbrev yfq (v0:List Int) (v1 v2 v3:Int):(yac).X:=(((v0,()),(v1,()),(v2,()),(v3,()),()),(),())
abbrev yzF (v0:List Int) (v1 v2:Int):(ya9).X:=(((v0,()),(v1,()),(v2,()),((),()),()),(),())
abbrev yzD  :(ya7).X:=((),(),())
abbrev yli (v0:Int):(ybb).X:=(((v0,()),()),(),())
def yfx (v0:List Int) (v1 v2 v3:Int):Option ((yac).X ⊕ ((ya7).X ⊕ (ybb).X)) :=bif(ltb v3 v2)then bif(inb v3 v0.length)then let r2:=ydN (nth v0 v3 0) v1;bif r2 then some (.inr (.inr (((v3,()),()),(),()))) else some (.inl (((v0,()),(v1,()),(v2,()),((i64.wrap (v3+1)),()),()),(),())) else none else some (.inr (.inl ((),(),())))
def yam (x:(yac).X):=yfx x.1.1.1 x.1.2.1.1 x.1.2.2.1.1 x.1.2.2.2.1.1
def yld (x:(ya9).X):(yac).X:=(((x.1.1.1,()),(x.1.2.1.1,()),(x.1.2.2.1.1,()),(0,()),()),(),())
def ymP:Code:=(zd7 yeC 64 52).getD .skip
theorem yA7:zd7 yeC 64 13=some (.block 0 (.loop ymP)):=by kernel_rfl
theorem yBh (x:(yac).X):zhu ⟨yiM,19,ym6⟩ 0 ymP 52 yac ya7 ybb x=yam x:=by kernel_rfl
def ylf (x:(ya9).X):Nat:=18446744073709551616
def ygb (x:(ya9).X):Option ((ya7).X ⊕ (ybb).X):=zF yam (ylf x) (yld x)
def ylA:Seg:=⟨ya9,ya7,ybb,ygb⟩
def yBt:Nat→Option Seg:=fun q=>bif Nat.beq q 13 then some ylA else ym6 q
theorem yBc:FrOk prog ⟨yiM,19,yBt⟩ yeC:=(yBb).loop (sg:=ylA) yac yld (by decide) yA7 yam ylf (by decide) (fun _=>rfl) (fun x r _ h=>h) yBh
abbrev yeE:List Par:= [.rd tL,.fn 223 tI]
abbrev yiP:List OT:= [⟨false,tI,.fz⟩]
def yg8 (a0:List Int) (a1:Int):Option (zaY yiP×zak yeE) :=zkt (ygb (((a0,()),(a1,()),((a0.length:Int),()),((),()),()),(),())) (fun y2 =>some (((-1),()),())) (fun y2 =>some ((y2.1.1.1,()),()))
theorem yDr:ConOk prog 244 ⟨yeE,yiP,fun x=>yg8 x.1 x.2.1⟩:=zkI (yBc) func244 ntmps244.symm fun x=>by kernel_rfl
def ycx (a0:List Int) (a1:Int):Int:=yU (fun e:Int=>e==a1) a0
theorem yD5 (a0:List Int) (a1:Int) (hk:zjx yeE (a0,a1,())):yg8 a0 a1=(fun n=>some ((n,()),())) (ycx a0 a1):=by
 have hb:a0.length*8≤2^47:=hk.1.1
 have h1:ygb (yzF a0 a1 a0.length)=some (bif leb 0 (yU (fun e:Int=>e==a1) a0)then .inr (yli (yU (fun e:Int=>e==a1) a0))else .inl yzD) :=
  yE6 (step:=yam) a0 0 (fun i=>yfq a0 a1 a0.length i) (fun e:Int=>e==a1) (fun i=> .inr (yli i)) _ (fun i hi=>by
   simp only[yam,yfq,yfx,zky (show(i:Int)<a0.length by omega),cond_true,wq ((i:Int)+1) (by omega) (by omega),Int.natCast_add,Int.natCast_one,Int.toNat_natCast,zkR hi,zkS,ydN]
   cases(a0.getD i 0==a1)<;>rfl) (by simp only[yam,yfq,yfx,zk3 (Int.le_refl _),cond_false]) _ (by show _<18446744073709551616; omega)
 unfold yg8 ycx;rw[h1];cases h:leb 0 (yU (fun e:Int=>e==a1) a0)
 ·rw[yK3 h]; rfl
 ·rfl
def ynt:Con:=⟨yeE,yiP,fun x=>(fun n=>some ((n,()),())) (ycx x.1 x.2.1)⟩
theorem yD8:ConOk prog 244 ynt:=(yDr).mono (fun x r hk h=>(yD5 x.1 x.2.1 hk).trans h)
def yeb:Code:=(f222.body).getD .skip
def yhn:Env:=zkw TT [(223,ylJ),(244,ynt)] []
theorem yzz:FrOk prog ⟨yhn,42,fun _=>none⟩ yeb:=zkA mixed yc ⟨yyc,yD8,trivial⟩
def ymj:Nat→Option Seg:=fun _=>none
def yZ:Shape:=⟨[(0,false,[.at 800000000]),(1,false,[.fx 223 tI]),(5,false,[.int .i64]),(6,false,[.int .i64])],[],[(800000000,tI,.fz)]⟩
def yaS:Shape:=⟨[(0,false,[.at 800000000]),(1,false,[.fx 223 tI]),(5,false,[.int .i64]),(6,false,[.int .i64])],[],[(800000000,tI,.fz)]⟩
def yaR:Shape:=⟨[(0,false,[.at 800000000]),(5,false,[.int .i64])],[],[(800000000,tI,.fz)]⟩
def ycA:Shape:=⟨[],[],[]⟩
abbrev yb7 (v0 v1 v2:Int) (v3:List Int):(yZ).X:=((((),()),(v0,()),(v1,()),(v2,()),()),(),(v3,()))
abbrev yyb (v0 v1 v2:Int) (v3:List Int):(yaS).X:=((((),()),(v0,()),(v1,()),(v2,()),()),(),(v3,()))
abbrev yx9 (v0:Int) (v1:List Int):(yaR).X:=((((),()),(v0,()),()),(),(v1,()))
def yfb (v0 v1 v2:Int) (v3:List Int):Option ((yZ).X ⊕ ((yaR).X ⊕ (ycA).X)) :=bif(ltb v2 (v3.length:Int))then bif(inb v2 v3.length)then let r3:=ydN (nth v3 v2 0) v0;bif(!r3)then bif(inb v1 v3.length)then some (.inl ((((),()),(v0,()),((i64.wrap (v1+1)),()),((i64.wrap (v2+1)),()),()),(),((v3.set (v1).toNat (nth v3 v2 0)),()))) else none else some (.inl ((((),()),(v0,()),(v1,()),((i64.wrap (v2+1)),()),()),(),(v3,()))) else none else some (.inr (.inl ((((),()),(v1,()),()),(),(v3,()))))
def yah (x:(yZ).X):=yfb x.1.2.1.1 x.1.2.2.1.1 x.1.2.2.2.1.1 x.2.2.1
def ykl (x:(yaS).X):(yZ).X:=((((),()),(x.1.2.1.1,()),(x.1.2.2.1.1,()),(x.1.2.2.2.1.1,()),()),(),(x.2.2.1,()))
def ylb:Code:=(zd7 yeb 64 244).getD .skip
theorem yzw:zd7 yeb 64 61=some (.block 0 (.loop ylb)):=by kernel_rfl
theorem yzK (x:(yZ).X):zhu ⟨yhn,42,ymj⟩ 0 ylb 244 yZ yaR ycA x=yah x:=by kernel_rfl
def ykn (x:(yaS).X):Nat:=18446744073709551616
def yfn (x:(yaS).X):Option ((yaR).X ⊕ (ycA).X):=zF yah (ykn x) (ykl x)
def yko:Seg:=⟨yaS,yaR,ycA,yfn⟩
def yA5:Nat→Option Seg:=fun q=>bif Nat.beq q 61 then some yko else ymj q
theorem yzA:FrOk prog ⟨yhn,42,yA5⟩ yeb:=(yzz).loop (sg:=yko) yZ ykl (by decide) yzw yah ykn (by decide) (fun _=>rfl) (fun x r _ h=>h) yzK
abbrev yec:List Par:= [.kp tL (.ow .fz),.fn 223 tI]
abbrev yho:List OT:= [⟨false,tL,(.ow .fz)⟩]
def ygf (a0:List Int) (a1:Int):Option (zaY yho×zak yec) :=let r1:=ycx a0 a1;bif(r1==(-1))then some ((a0,()),()) else zkt (yfn ((((),()),(a1,()),(r1,()),((i64.wrap (r1+1)),()),()),(),(a0,()))) (fun y3 =>bif(zj0 y3.1.2.1.1 (y3.2.2.1.length:Int) y3.2.2.1.length)then bif(zj0 0 y3.1.2.1.1 (y3.2.2.1.take (y3.1.2.1.1).toNat++(List.replicate ((y3.2.2.1.length:Int)-y3.1.2.1.1).toNat (0:Int))++y3.2.2.1.drop ((y3.1.2.1.1).toNat+(List.replicate ((y3.2.2.1.length:Int)-y3.1.2.1.1).toNat (0:Int)).length)).length)then some (((((y3.2.2.1.take (y3.1.2.1.1).toNat++(List.replicate ((y3.2.2.1.length:Int)-y3.1.2.1.1).toNat (0:Int))++y3.2.2.1.drop ((y3.1.2.1.1).toNat+(List.replicate ((y3.2.2.1.length:Int)-y3.1.2.1.1).toNat (0:Int)).length)).drop (0:Int).toNat).take (y3.1.2.1.1-0).toNat),()),()) else none else none) (fun y3 =>none)
theorem yBf:ConOk prog 222 ⟨yec,yho,fun x=>ygf x.1 x.2.1⟩:=zkI (yzA) func222 ntmps222.symm fun x=>by kernel_rfl
def ybP (a0:List Int) (a1:Int):List Int:=yHT a0 a1
theorem yDp (a0:List Int) (a1:Int) (hk:zjx yec (a0,a1,())):ygf a0 a1=(fun n=>some ((n,()),())) (ybP a0 a1):=by
 have hb:a0.length*8≤2^47:=hk.1.1;have hs:yHT a0 a1=a0.filter (fun x=> !(x==a1)):=rfl;unfold ygf ybP ycx;simp only[];cases hi:leb 0 (yU (fun e:Int=>e==a1) a0)
 ·rw[yK3 hi,hs,y2B hi]; rfl
 ·obtain⟨h1,h2⟩:=ygV (d:=(0:Int)) hi
  have h3:=zj6.1 h1;have h4:=yXa hi;generalize hk0:yU (fun e:Int=>e==a1) a0=k at *;obtain⟨k,rfl⟩: ∃m:Nat,k=m:=⟨k.toNat,by omega⟩;rw[Int.toNat_natCast]at h4;rw[show((k:Int)== -1)=false from beq_eq_false_iff_ne.2 (by omega),cond_false,wq ((k:Int)+1) (by omega) (by omega)]
  obtain⟨b,e,i,s,rfl,q1,q2,q3⟩:=zjj (step:=yah) (fun x=>(a0.length-Int.toNat x.1.2.2.2.1.1))
   (fun x=> ∃(i j:Nat) (s:List Int),x=yb7 a1 i j s∧i<j∧j≤a0.length∧s.length=a0.length∧s.take i=(a0.take j).filter (fun x=> !(x==a1))∧s.drop j=a0.drop j)
   (fun b=> ∃(i:Nat) (s:List Int),b= .inl (yx9 i s)∧i≤a0.length∧s.length=a0.length∧s.take i=a0.filter (fun x=> !(x==a1)))
   (fun x hx=>by
    obtain⟨i,j,s,rfl,p1,p2,p3,p4,p5⟩:=hx;by_cases hj:j<a0.length
    ·left
     have e1:nth s j 0=a0[j]:=by
      rw[zkS,zkJ (by omega)];have:=List.getElem_drop (xs:=s) (i:=j) (j:=0) (h:=by rw[List.length_drop]; omega);have h6:(s.drop j)[0]'(by rw[List.length_drop]; omega)=(a0.drop j)[0]'(by rw[List.length_drop]; omega):=by simp only[p5]
      simpa using h6
     have e2:a0.take (j+1)=a0.take j++ [a0[j]]:=(List.take_append_getElem hj).symm;simp only[yah,yb7,yfb,p3,zky (show(j:Int)<a0.length by omega),zkR hj,zkR (show i<a0.length by omega),e1,ydN,wq ((j:Int)+1) (by omega) (by omega),wq ((i:Int)+1) (by omega) (by omega),cond_true,Int.toNat_natCast];cases hx:(a0[j]==a1)
     ·refine⟨_,rfl,⟨i+1,j+1,s.set i a0[j],rfl,by omega,by omega,by rw[List.length_set,p3],?_,?_⟩,by show a0.length-((j:Int)+1).toNat<a0.length-((j:Int)).toNat; omega⟩
      ·rw[List.take_set,← List.take_append_getElem (show i<s.length by omega),List.set_append_right _ _ (by rw[List.length_take]; omega),p4,e2,List.filter_append,List.filter_cons,hx]
       have:i-(List.filter (fun x=> !x==a1) (a0.take j)).length=0:=by rw[← p4,List.length_take]; omega
       rw[this]; rfl
      ·rw[List.drop_set_of_lt (by omega),← List.drop_drop,p5,List.drop_drop]
     ·refine⟨_,rfl,⟨i,j+1,s,rfl,by omega,by omega,p3,?_,?_⟩,by show a0.length-((j:Int)+1).toNat<a0.length-((j:Int)).toNat; omega⟩
      ·rw[p4,e2,List.filter_append,List.filter_cons,hx]; simp
      ·rw[← List.drop_drop,p5,List.drop_drop]
    ·right
     have:j=a0.length:=by omega
     subst this;rw[List.take_length]at p4;refine⟨_,?_,i,s,rfl,by omega,p3,p4⟩
     simp only[yah,yb7,yfb,p3,zk3 (Int.le_refl _),cond_false]) 18446744073709551616 (yb7 a1 k (k+1:Nat) a0) ⟨k,k+1,a0,rfl,by omega,by omega,rfl,h4.symm,rfl⟩ (by show a0.length-((k+1:Nat):Int).toNat<18446744073709551616; omega)
  rw[show((k+1:Nat):Int)=(k:Int)+1 by omega]at e;rw[show yfn (yyb a1 k ((k:Int)+1) a0)=_ from e];rw[hs,← q3]
  have hL:(s.take i++List.replicate ((s.length:Int)-i).toNat (0:Int)++s.drop ((i:Int).toNat+(List.replicate ((s.length:Int)-i).toNat (0:Int)).length)).length=s.length:=by
   simp only[List.length_append,List.length_take,List.length_replicate,List.length_drop]; omega
  show(bif zj0 i s.length s.length then bif zj0 0 i (s.take i++List.replicate ((s.length:Int)-i).toNat (0:Int)++s.drop ((i:Int).toNat+(List.replicate ((s.length:Int)-i).toNat (0:Int)).length)).length then some ((((s.take i++List.replicate ((s.length:Int)-i).toNat (0:Int)++s.drop ((i:Int).toNat+(List.replicate ((s.length:Int)-i).toNat (0:Int)).length)).drop 0).take ((i:Int)-0).toNat,()),())else none else none)=some ((s.take i,()),());rw[hL,zkz.2 (show 0≤(i:Int)∧(i:Int)≤s.length∧(s.length:Int)≤s.length by omega),zkz.2 (show(0:Int)≤0∧(0:Int)≤i∧(i:Int)≤s.length by omega),List.drop_zero,show((i:Int)-0).toNat=i by omega,List.append_assoc,List.take_append_of_le_length (by rw[List.length_take]; omega),List.take_take,Nat.min_self]; rfl
def ymS:Con:=⟨yec,yho,fun x=>(fun n=>some ((n,()),())) (ybP x.1 x.2.1)⟩
theorem yDw:ConOk prog 222 ymS:=(yBf).mono (fun x r hk h=>(yDp x.1 x.2.1 hk).trans h)
def yQY:Code:=(f193.body).getD .skip
def yRm:Env:=zkw TT [(127,yjH),(133,ykI),(156,ymR),(158,yaY),(186,ywp),(222,ymS)] []
theorem yJA:FrOk prog ⟨yRm,51,fun _=>none⟩ yQY:=zkA mixed yc ⟨yqF,yur,ywz,ycQ,yH0,yDw,trivial⟩
abbrev ymr:List Par:= [.rd tM,.rd tI,.rd tL]
abbrev ytp:List OT:= [⟨false,tM,(.pr (.ow (.ow .fz)) (.pr (.ow (.pr .fz (.ow .fz))) (.pr .fz (.ow .fz))))⟩,⟨false,tB,.fz⟩]
def ypE (a0:dM) (a1:Int) (a2:List Int):Option (zaY ytp×zak ymr) :=let r1:=ybE a0;let r2:=ybx a0;bif(!(!r2))then bif(!a0.2.2.1)then let r3:=ybC a0 a1;bif(!(!r3))then let r4:=ygZ a2;bif(!(!r4))then bif((a0.2.1.length:Int)==60)then some ((r1,false,()),()) else let r5:=yr a2;bif(zkl r1.2.1.length ([(a1,r5)]:List dW).length 32)then let r6:=ybP r1.2.2.2 a1;some (((r1.1,(r1.2.1++([(a1,r5)]:List dW)),r1.2.2.1,r6),true,()),()) else none else some ((r1,false,()),()) else some ((r1,false,()),()) else some ((r1,false,()),()) else some ((r1,false,()),())
theorem yMU:ConOk prog 193 ⟨ymr,ytp,fun x=>ypE x.1 x.2.1 x.2.2.1⟩:=zkI (yJA) func193 ntmps193.symm fun x=>by kernel_rfl
def yiy (a0:dM) (a1:Int) (a2:List Int):dM×Bool:=yae a0 a1 a2
theorem yPI (a0:dM) (a1:Int) (a2:List Int) (hk:zjx ymr (a0,a1,a2,())):ypE a0 a1 a2=(fun n=>some ((n.1,n.2,()),())) (yiy a0 a1 a2):=by
 have hb1:a0.1.length*24≤2^47:=hk.1.1.1;unfold ypE yiy yae ybu;simp only[ybE,ybx,ybC,yas,ynu (show a0.1.length≤1152921504606846976 by omega),yFP,yr,ybP];cases hm:yz a0
 ·rfl
 have hc:=(ycv hm).2.2.2.2.2;cases a0.2.2.1
 ·cases inb a1 a0.1.length
  ·rfl
  cases yan a2
  ·rfl
  by_cases h:(a0.2.1.length:Int)<60
  ·rw[zky h,show((a0.2.1.length:Int)==60)=false from beq_eq_false_iff_ne.2 (by omega),zkF.2 (show(a0.2.1.length+ [(a1,a2)].length)*32≤140737488355328 by simp only[List.length_cons,List.length_nil]; omega)]; rfl
  ·rw[zk3 (by omega),show((a0.2.1.length:Int)==60)=true from beq_iff_eq.2 (by omega)]; rfl
 ·rfl
def yAj:Con:=⟨ymr,ytp,fun x=>(fun n=>some ((n.1,n.2,()),())) (yiy x.1 x.2.1 x.2.2.1)⟩
theorem yQv:ConOk prog 193 yAj:=(yMU).mono (fun x r hk h=>(yPI x.1 x.2.1 x.2.2.1 hk).trans h)
def yNG:Code:=(f139.body).getD .skip
def yNV:Env:=zkw TT [(192,ytL),(193,yAj)] []
theorem yIi:FrOk prog ⟨yNV,39,fun _=>none⟩ yNG:=zkA mixed yc ⟨yGK,yQv,trivial⟩
abbrev ygu:List Par:= [.pt tA (.pr .fz (.pr (.pr .fz .fz) (.pr (.ow (.pr (.ow (.ow .fz)) (.pr (.ow (.pr .fz (.ow .fz))) (.pr .fz (.ow .fz))))) (.pr .fz (.pr .fz (.pr .fz (.pr .fz (.pr .fz (.pr (.ow (.pr .fz (.ow .fz))) (.pr .fz (.pr .fz .fz))))))))))),.rd tI,.rd tI,.rd tL]
abbrev yky:List OT:= [⟨false,tB,.fz⟩]
def ynS (a0:dA) (a1 a2:Int) (a3:List Int):Option (zaY yky×zak ygu) :=bif(inb a1 a0.2.2.1.length)then bif(((nth a0.2.2.1 a1 ([],[],false,[])).2).2).1 then some ((true,()),(a0,())) else let r1:=yhs a0;bif(!r1.1)then some ((false,()),(r1.2,())) else bif(inb a1 r1.2.2.2.1.length)then let r2:=yiy ((nth r1.2.2.2.1 a1 ([],[],false,[])).1,((nth r1.2.2.2.1 a1 ([],[],false,[])).2).1,(((nth r1.2.2.2.1 a1 ([],[],false,[])).2).2)) a2 a3;bif(inb a1 r1.2.2.2.1.length)then some ((true,()),((r1.2.1,r1.2.2.1,(r1.2.2.2.1.set (a1).toNat r2.1),r1.2.2.2.2),())) else none else none else none
theorem yKr:ConOk prog 139 ⟨ygu,yky,fun x=>ynS x.1 x.2.1 x.2.2.1 x.2.2.2.1⟩:=zkI (yIi) func139 ntmps139.symm fun x=>by kernel_rfl
def ycO (a0:dA) (a1 a2:Int) (a3:List Int):Bool×dA:=(!(ya (ycR a0 a1 a2 a3)),ycR a0 a1 a2 a3)
def ycS (a0:dA) (a1 a2:Int) (a3:List Int):Bool:=inb a1 a0.2.2.1.length&& !(ya a0)
theorem yMG (a0:dA) (a1 a2:Int) (a3:List Int) (hk:zjx ygu (a0,a1,a2,a3,())) (hq:ycS a0 a1 a2 a3=true):ynS a0 a1 a2 a3=(fun n=>some ((n.1,()),(n.2,()))) (ycO a0 a1 a2 a3):=by
 simp only[ycS,Bool.and_eq_true,Bool.not_eq_true']at hq;unfold ynS ycO;simp only[y0c hq.2];unfold ycR yeo;simp only[ySB hq.2,yaE,hq.1,zkX,yiy];cases(nth a0.2.2.1 a1 yh).2.2.1<;>cases(opA a0).1<;>rfl
def yex (a0:dA) (a1 a2:Int) (a3:List Int):Option (zaY yky×zak ygu):=bif ycS a0 a1 a2 a3 then(fun n=>some ((n.1,()),(n.2,()))) (ycO a0 a1 a2 a3)else none
theorem ypt (a0:dA) (a1 a2:Int) (a3:List Int) (h:ycS a0 a1 a2 a3=true):yex a0 a1 a2 a3=(fun n=>some ((n.1,()),(n.2,()))) (ycO a0 a1 a2 a3):=by unfold yex; rw[h]; rfl
def yiq:Con:=⟨ygu,yky,fun x=>yex x.1 x.2.1 x.2.2.1 x.2.2.2.1⟩
theorem yps:ConOk prog 139 yiq:=(yKr).mono (fun x r hk h=>zkY h (fun hq=>yMG x.1 x.2.1 x.2.2.1 x.2.2.2.1 hk hq))
def yZh:Code:=(f159.body).getD .skip
def yZu:Env:=zkw TT [(81,yJ),(187,ykJ)] []
theorem yR3:FrOk prog ⟨yZu,22,fun _=>none⟩ yZh:=zkA mixed yc ⟨yY,yus,trivial⟩
abbrev yBK:List Par:= [.rd tN]
abbrev yBV:List OT:= [⟨false,tB,.fz⟩]
def yG1 (a0:dN):Option (zaY yBV×zak yBK) :=let r1:=yf a0.1 0 60000;bif r1 then let r2:=yf a0.2.1 0 7;bif r2 then let r3:=yf (a0.2.2.length:Int) 2 4;bif r3 then let r4:=yar a0.2.2;some ((r4,()),()) else some ((false,()),()) else some ((false,()),()) else some ((false,()),())
theorem yWa:ConOk prog 159 ⟨yBK,yBV,fun x=>yG1 x.1⟩:=zkI (yR3) func159 ntmps159.symm fun x=>by kernel_rfl
def ynK (a0:dN):Bool :=let r1:=yf a0.1 0 60000;bif r1 then let r2:=yf a0.2.1 0 7;bif r2 then let r3:=yf (a0.2.2.length:Int) 2 4;bif r3 then let r4:=yar a0.2.2;r4 else false else false else false
def yGi:Con:=⟨yBK,yBV,fun x=>(fun n=>some ((n,()),())) (ynK x.1)⟩
theorem yYx (a0:dN):yG1 a0=(fun n=>some ((n,()),())) (ynK a0):=zkV (p:=fun(n:Bool)=>((n,()),())) (zkG (p:=fun(n:Bool)=>((n,()),())) (zkG (p:=fun(n:Bool)=>((n,()),())) (zkG (p:=fun(n:Bool)=>((n,()),())) rfl rfl) rfl) rfl)
theorem yYV:ConOk prog 159 yGi:=(yWa).mono (fun x r _ h=>(yYx x.1).trans h)
theorem y0x (r:dN):ynK r=yby r:=by
 unfold ynK yby;simp only[yas,yuc,yfv]
def yXy:Code:=(f164.body).getD .skip
def yX3:Env:=zkw TT [(159,yGi)] []
theorem yOh:FrOk prog ⟨yX3,17,fun _=>none⟩ yXy:=zkA mixed yc ⟨yYV,trivial⟩
abbrev yql:List Par:= [.rd tN]
abbrev yy4:List OT:= [⟨false,tL,(.ow .fz)⟩]
def yux (a0:dN):Option (zaY yy4×zak yql) :=let r1:=ynK a0;bif(!r1)then some (([],()),()) else bif(zkl ([21322,a0.1,a0.2.1,(a0.2.2.length:Int)]:List Int).length a0.2.2.length 8)then some (((([21322,a0.1,a0.2.1,(a0.2.2.length:Int)]:List Int)++a0.2.2),()),()) else none
theorem yTj:ConOk prog 164 ⟨yql,yy4,fun x=>yux x.1⟩:=zkI (yOh) func164 ntmps164.symm fun x=>by kernel_rfl
def ylk (a0:dN):List Int:=ylw a0
theorem yVD (a0:dN) (hk:zjx yql (a0,())):yux a0=(fun n=>some ((n,()),())) (ylk a0):=by
 unfold yux ylk ylw;simp only[y0x];cases hr:yby a0
 ·rfl
 ·have:=(yXk.1 hr).2.2.1
  rw[zkF.2 (show(([21322,a0.1,a0.2.1,(a0.2.2.length:Int)]:List Int).length+a0.2.2.length)*8≤140737488355328 by simp only[List.length_cons,List.length_nil]; omega)]; rfl
def yEA:Con:=⟨yql,yy4,fun x=>(fun n=>some ((n,()),())) (ylk x.1)⟩
theorem yWv:ConOk prog 164 yEA:=(yTj).mono (fun x r hk h=>(yVD x.1 hk).trans h)
def ymb:Code:=(f205.body).getD .skip
def ysD:Env:=zkw TT [(127,yjH),(133,ykI),(158,yaY)] []
theorem yJs:FrOk prog ⟨ysD,34,fun _=>none⟩ ymb:=zkA mixed yc ⟨yqF,yur,ycQ,trivial⟩
def yzR:Nat→Option Seg:=fun _=>none
def ybq:Shape:=⟨[(2,false,[.ptr 64 0]),(3,false,[.ptr 4224 0]),(17,false,[.br tW]),(18,false,[.int .i64]),(19,false,[.int .i64])],[(64,[.nil,.nil,.bool,.nil]),(4224,[.at 800000000,.at 800000001,.bool,.at 800000002])],[(800000000,tL,(.ow .fz)),(800000001,tW,(.pr .fz (.ow .fz))),(800000002,tI,.fz)]⟩
def yeU:Shape:=⟨[(2,false,[.ptr 64 0]),(3,false,[.ptr 4224 0]),(17,false,[.br tW]),(18,false,[.int .i64]),(19,false,[.ci .i64 0])],[(64,[.nil,.nil,.bool,.nil]),(4224,[.at 800000000,.at 800000001,.bool,.at 800000002])],[(800000000,tL,(.ow .fz)),(800000001,tW,(.pr .fz (.ow .fz))),(800000002,tI,.fz)]⟩
def yeM:Shape:=⟨[(2,false,[.ptr 64 0]),(3,false,[.ptr 4224 0])],[(64,[.nil,.nil,.bool,.nil]),(4224,[.at 800000000,.at 800000001,.bool,.at 800000002])],[(800000000,tL,(.ow .fz)),(800000001,tW,(.pr .fz (.ow .fz))),(800000002,tI,.fz)]⟩
def yie:Shape:=⟨[],[],[]⟩
abbrev ylO (v0:List dW) (v1 v2:Int) (v3 v4:dM):(ybq).X:=((((),()),((),()),(v0,()),(v1,()),(v2,()),()),(((),(),v3.2.2.1,(),()),((),(),v4.2.2.1,(),()),()),(v4.1,v4.2.1,v4.2.2.2,()))
abbrev yIu (v0:List dW) (v1:Int) (v2 v3:dM):(yeU).X:=((((),()),((),()),(v0,()),(v1,()),((),()),()),(((),(),v2.2.2.1,(),()),((),(),v3.2.2.1,(),()),()),(v3.1,v3.2.1,v3.2.2.2,()))
abbrev yvn (v0 v1:dM):(yeM).X:=((((),()),((),()),()),(((),(),v0.2.2.1,(),()),((),(),v1.2.2.1,(),()),()),(v1.1,v1.2.1,v1.2.2.2,()))
def yl2 (v0:List dW) (v1 v2:Int) (v3 v4:Bool) (v5:List (List Int)) (v6:List dW) (v7:List Int):Option ((ybq).X ⊕ ((yeM).X ⊕ (yie).X)) :=bif(ltb v2 v1)then bif(inb v2 v0.length)then let r4:=yr ((nth v0 v2 (0,[])).2);bif(inb ((nth v0 v2 (0,[])).1) v5.length)then some (.inl ((((),()),((),()),(v0,()),(v1,()),((i64.wrap (v2+1)),()),()),(((),(),v3,(),()),((),(),v4,(),()),()),((v5.set ((nth v0 v2 (0,[])).1).toNat r4),v6,v7,()))) else none else none else some (.inr (.inl ((((),()),((),()),()),(((),(),v3,(),()),((),(),v4,(),()),()),(v5,v6,v7,()))))
def ybJ (x:(ybq).X):=yl2 x.1.2.2.1.1 x.1.2.2.2.1.1 x.1.2.2.2.2.1.1 x.2.1.1.2.2.1 x.2.1.2.1.2.2.1 x.2.2.1 x.2.2.2.1 x.2.2.2.2.1
def yu7 (x:(yeU).X):(ybq).X:=((((),()),((),()),(x.1.2.2.1.1,()),(x.1.2.2.2.1.1,()),(0,()),()),(((),(),x.2.1.1.2.2.1,(),()),((),(),x.2.1.2.1.2.2.1,(),()),()),(x.2.2.1,x.2.2.2.1,x.2.2.2.2.1,()))
def yxj:Code:=(zd7 ymb 64 244).getD .skip
theorem yI8:zd7 ymb 64 61=some (.block 0 (.loop yxj)):=by kernel_rfl
theorem yKI (x:(ybq).X):zhu ⟨ysD,34,yzR⟩ 0 yxj 244 ybq yeM yie x=ybJ x:=by kernel_rfl
def yvg (x:(yeU).X):Nat:=18446744073709551616
def ynd (x:(yeU).X):Option ((yeM).X ⊕ (yie).X):=zF ybJ (yvg x) (yu7 x)
def yvx:Seg:=⟨yeU,yeM,yie,ynd⟩
def yLh:Nat→Option Seg:=fun q=>bif Nat.beq q 61 then some yvx else yzR q
theorem yJt:FrOk prog ⟨ysD,34,yLh⟩ ymb:=(yJs).loop (sg:=yvx) ybq yu7 (by decide) yI8 ybJ yvg (by decide) (fun _=>rfl) (fun x r _ h=>h) yKI
abbrev ymm:List Par:= [.rd tM]
abbrev ytj:List OT:= [⟨false,tM,(.pr (.ow (.ow .fz)) (.pr (.ow (.pr .fz (.ow .fz))) (.pr .fz (.ow .fz))))⟩]
def ypz (a0:dM):Option (zaY ytj×zak ymm) :=let r1:=ybE a0;let r2:=ybx a0;bif(!(!r2))then bif a0.2.2.1 then some ((r1,()),()) else zkt (ynd ((((),()),((),()),(a0.2.1,()),((a0.2.1.length:Int),()),((),()),()),(((),(),false,(),()),((),(),r1.2.2.1,(),()),()),(r1.1,r1.2.1,r1.2.2.2,()))) (fun y4 =>some (((y4.2.2.1,[],y4.2.1.2.1.2.2.1,y4.2.2.2.2.1),()),())) (fun y4 =>none) else some ((r1,()),())
theorem yMO:ConOk prog 205 ⟨ymm,ytj,fun x=>ypz x.1⟩:=zkI (yJt) func205 ntmps205.symm fun x=>by kernel_rfl
def yiv (a0:dM):dM:=yy a0
theorem yPC (a0:dM) (hk:zjx ymm (a0,())):ypz a0=(fun n=>some ((n,()),())) (yiv a0):=by
 have hb2:a0.2.1.length*32≤2^47:=hk.1.2.1.1;unfold ypz yiv yy;simp only[ybE,ybx];cases hm:yz a0
 ·rfl
 have h1:ynd (yIu a0.2.1 a0.2.1.length yh a0)=some (.inl (yvn yh (yjK (fun _=>true) a0.2.1 a0.1,a0.2))) :=
  zkD (step:=ybJ) a0.2.1.length (fun i s=>ylO a0.2.1 a0.2.1.length i yh (s,a0.2)) (ygW (fun _=>true) a0.2.1) (fun i s=>s.length=a0.1.length) (fun s=> .inl (yvn yh (s,a0.2))) (fun i s hi hs=>by
   have hw:=(yZ1 hm hi).1;refine⟨?_,yBd.trans hs⟩
   simp only[ybJ,ylO,yl2,zky (show(i:Int)<a0.2.1.length by omega),cond_true,wq ((i:Int)+1) (by omega) (by omega),Int.natCast_add,Int.natCast_one,Int.toNat_natCast,zkR hi,hs,hw,ygW,yr]) (fun s hs=>by simp only[ybJ,ylO,yl2,zk3 (Int.le_refl _),cond_false]) a0.1 rfl _ (by show _<18446744073709551616; omega)
 rw[h1];cases hf:a0.2.2.1
 ·exact congrArg (fun z=>some (((yjK (fun _=>true) a0.2.1 a0.1,([]:List dW),z,a0.2.2.2),()),())) hf
 ·rfl
def yAg:Con:=⟨ymm,ytj,fun x=>(fun n=>some ((n,()),())) (yiv x.1)⟩
theorem yQs:ConOk prog 205 yAg:=(yMO).mono (fun x r hk h=>(yPC x.1 hk).trans h)
def yl8:Code:=(f165.body).getD .skip
def ysA:Env:=zkw TT [(192,ytL),(205,yAg)] []
theorem yJm:FrOk prog ⟨ysA,38,fun _=>none⟩ yl8:=zkA mixed yc ⟨yGK,yQs,trivial⟩
def yzO:Nat→Option Seg:=fun _=>none
def ybn:Shape:=⟨[(0,false,[.ptr 1000000000 0]),(8,false,[.int .i64]),(9,false,[.int .i64])],[(1000000000,[.int .i64,.int .i64,.int .i64,.at 800000000,.int .i64,.int .i64,.int .i64,.int .i64,.int .i64,.at 800000001,.int .i64,.bool,.bool])],[(800000000,tM,(.pr (.ow (.ow .fz)) (.pr (.ow (.pr .fz (.ow .fz))) (.pr .fz (.ow .fz))))),(800000001,tW,(.pr .fz (.ow .fz)))]⟩
def yeR:Shape:=⟨[(0,false,[.ptr 1000000000 0]),(8,false,[.int .i64]),(9,false,[.ci .i64 0])],[(1000000000,[.int .i64,.int .i64,.int .i64,.at 800000000,.int .i64,.int .i64,.int .i64,.int .i64,.int .i64,.at 800000001,.int .i64,.bool,.bool])],[(800000000,tM,(.pr (.ow (.ow .fz)) (.pr (.ow (.pr .fz (.ow .fz))) (.pr .fz (.ow .fz))))),(800000001,tW,(.pr .fz (.ow .fz)))]⟩
def yeJ:Shape:=⟨[],[(1000000000,[.int .i64,.int .i64,.int .i64,.at 800000000,.int .i64,.int .i64,.int .i64,.int .i64,.int .i64,.at 800000001,.int .i64,.bool,.bool])],[(800000000,tM,(.pr (.ow (.ow .fz)) (.pr (.ow (.pr .fz (.ow .fz))) (.pr .fz (.ow .fz))))),(800000001,tW,(.pr .fz (.ow .fz)))]⟩
def yeZ:Shape:=⟨[(2,false,[.bool])],[(1000000000,[.int .i64,.int .i64,.int .i64,.at 800000000,.int .i64,.int .i64,.int .i64,.int .i64,.int .i64,.at 800000001,.int .i64,.bool,.bool])],[(800000000,tM,(.pr (.ow (.ow .fz)) (.pr (.ow (.pr .fz (.ow .fz))) (.pr .fz (.ow .fz))))),(800000001,tW,(.pr .fz (.ow .fz)))]⟩
abbrev yhk (v0 v1:Int) (v2:dA):(ybn).X:=((((),()),(v0,()),(v1,()),()),((v2.1,v2.2.1.1,v2.2.1.2,(),v2.2.2.2.1,v2.2.2.2.2.1,v2.2.2.2.2.2.1,v2.2.2.2.2.2.2.1,v2.2.2.2.2.2.2.2.1,(),v2.2.2.2.2.2.2.2.2.2.1,v2.2.2.2.2.2.2.2.2.2.2.1,v2.2.2.2.2.2.2.2.2.2.2.2,()),()),(v2.2.2.1,v2.2.2.2.2.2.2.2.2.1,()))
abbrev yIr (v0:Int) (v1:dA):(yeR).X:=((((),()),(v0,()),((),()),()),((v1.1,v1.2.1.1,v1.2.1.2,(),v1.2.2.2.1,v1.2.2.2.2.1,v1.2.2.2.2.2.1,v1.2.2.2.2.2.2.1,v1.2.2.2.2.2.2.2.1,(),v1.2.2.2.2.2.2.2.2.2.1,v1.2.2.2.2.2.2.2.2.2.2.1,v1.2.2.2.2.2.2.2.2.2.2.2,()),()),(v1.2.2.1,v1.2.2.2.2.2.2.2.2.1,()))
abbrev ylT (v0:dA):(yeJ).X:=((),((v0.1,v0.2.1.1,v0.2.1.2,(),v0.2.2.2.1,v0.2.2.2.2.1,v0.2.2.2.2.2.1,v0.2.2.2.2.2.2.1,v0.2.2.2.2.2.2.2.1,(),v0.2.2.2.2.2.2.2.2.2.1,v0.2.2.2.2.2.2.2.2.2.2.1,v0.2.2.2.2.2.2.2.2.2.2.2,()),()),(v0.2.2.1,v0.2.2.2.2.2.2.2.2.1,()))
abbrev ylV (v0:Bool) (v1:dA):(yeZ).X:=(((v0,()),()),((v1.1,v1.2.1.1,v1.2.1.2,(),v1.2.2.2.1,v1.2.2.2.2.1,v1.2.2.2.2.2.1,v1.2.2.2.2.2.2.1,v1.2.2.2.2.2.2.2.1,(),v1.2.2.2.2.2.2.2.2.2.1,v1.2.2.2.2.2.2.2.2.2.2.1,v1.2.2.2.2.2.2.2.2.2.2.2,()),()),(v1.2.2.1,v1.2.2.2.2.2.2.2.2.1,()))
def ylZ (v0 v1 v2 v3 v4 v5 v6 v7 v8 v9 v10:Int) (v11 v12:Bool) (v13:List dM) (v14:List dW):Option ((ybn).X ⊕ ((yeJ).X ⊕ (yeZ).X)) :=bif(ltb v1 v0)then bif(inb v1 v13.length)then bif(((nth v13 v1 ([],[],false,[])).2).2).1 then some (.inl ((((),()),(v0,()),((i64.wrap (v1+1)),()),()),((v2,v3,v4,(),v5,v6,v7,v8,v9,(),v10,v11,v12,()),()),(v13,v14,()))) else let r3:=yhs (v2,(v3,v4),v13,v5,v6,v7,v8,v9,v14,v10,v11,v12);bif(!r3.1)then some (.inr (.inr (((false,()),()),((r3.2.1,r3.2.2.1.1,r3.2.2.1.2,(),r3.2.2.2.2.1,r3.2.2.2.2.2.1,r3.2.2.2.2.2.2.1,r3.2.2.2.2.2.2.2.1,r3.2.2.2.2.2.2.2.2.1,(),r3.2.2.2.2.2.2.2.2.2.2.1,r3.2.2.2.2.2.2.2.2.2.2.2.1,r3.2.2.2.2.2.2.2.2.2.2.2.2,()),()),(r3.2.2.2.1,r3.2.2.2.2.2.2.2.2.2.1,())))) else bif(inb v1 r3.2.2.2.1.length)then let r4:=yiv ((nth r3.2.2.2.1 v1 ([],[],false,[])).1,((nth r3.2.2.2.1 v1 ([],[],false,[])).2).1,(((nth r3.2.2.2.1 v1 ([],[],false,[])).2).2));bif(inb v1 r3.2.2.2.1.length)then some (.inl ((((),()),(v0,()),((i64.wrap (v1+1)),()),()),((r3.2.1,r3.2.2.1.1,r3.2.2.1.2,(),r3.2.2.2.2.1,r3.2.2.2.2.2.1,r3.2.2.2.2.2.2.1,r3.2.2.2.2.2.2.2.1,r3.2.2.2.2.2.2.2.2.1,(),r3.2.2.2.2.2.2.2.2.2.2.1,r3.2.2.2.2.2.2.2.2.2.2.2.1,r3.2.2.2.2.2.2.2.2.2.2.2.2,()),()),((r3.2.2.2.1.set (v1).toNat r4),r3.2.2.2.2.2.2.2.2.2.1,()))) else none else none else none else some (.inr (.inl ((),((v2,v3,v4,(),v5,v6,v7,v8,v9,(),v10,v11,v12,()),()),(v13,v14,()))))
def ybG (x:(ybn).X):=ylZ x.1.2.1.1 x.1.2.2.1.1 x.2.1.1.1 x.2.1.1.2.1 x.2.1.1.2.2.1 x.2.1.1.2.2.2.2.1 x.2.1.1.2.2.2.2.2.1 x.2.1.1.2.2.2.2.2.2.1 x.2.1.1.2.2.2.2.2.2.2.1 x.2.1.1.2.2.2.2.2.2.2.2.1 x.2.1.1.2.2.2.2.2.2.2.2.2.2.1 x.2.1.1.2.2.2.2.2.2.2.2.2.2.2.1 x.2.1.1.2.2.2.2.2.2.2.2.2.2.2.2.1 x.2.2.1 x.2.2.2.1
def yu4 (x:(yeR).X):(ybn).X:=((((),()),(x.1.2.1.1,()),(0,()),()),((x.2.1.1.1,x.2.1.1.2.1,x.2.1.1.2.2.1,(),x.2.1.1.2.2.2.2.1,x.2.1.1.2.2.2.2.2.1,x.2.1.1.2.2.2.2.2.2.1,x.2.1.1.2.2.2.2.2.2.2.1,x.2.1.1.2.2.2.2.2.2.2.2.1,(),x.2.1.1.2.2.2.2.2.2.2.2.2.2.1,x.2.1.1.2.2.2.2.2.2.2.2.2.2.2.1,x.2.1.1.2.2.2.2.2.2.2.2.2.2.2.2.1,()),()),(x.2.2.1,x.2.2.2.1,()))
def yxg:Code:=(zd7 yl8 64 52).getD .skip
theorem yI5:zd7 yl8 64 13=some (.block 0 (.loop yxg)):=by kernel_rfl
theorem yKF (x:(ybn).X):zhu ⟨ysA,38,yzO⟩ 0 yxg 52 ybn yeJ yeZ x=ybG x:=by kernel_rfl
def yvd (x:(yeR).X):Nat:=18446744073709551616
def yna (x:(yeR).X):Option ((yeJ).X ⊕ (yeZ).X):=zF ybG (yvd x) (yu4 x)
def yvu:Seg:=⟨yeR,yeJ,yeZ,yna⟩
def yLe:Nat→Option Seg:=fun q=>bif Nat.beq q 13 then some yvu else yzO q
theorem yJn:FrOk prog ⟨ysA,38,yLe⟩ yl8:=(yJm).loop (sg:=yvu) ybn yu4 (by decide) yI5 ybG yvd (by decide) (fun _=>rfl) (fun x r _ h=>h) yKF
abbrev yhA:List Par:= [.pt tA (.pr .fz (.pr (.pr .fz .fz) (.pr (.ow (.pr (.ow (.ow .fz)) (.pr (.ow (.pr .fz (.ow .fz))) (.pr .fz (.ow .fz))))) (.pr .fz (.pr .fz (.pr .fz (.pr .fz (.pr .fz (.pr (.ow (.pr .fz (.ow .fz))) (.pr .fz (.pr .fz .fz)))))))))))]
abbrev ymE:List OT:= [⟨false,tB,.fz⟩]
def ypw (a0:dA):Option (zaY ymE×zak yhA) :=zkt (yna ((((),()),((a0.2.2.1.length:Int),()),((),()),()),((a0.1,a0.2.1.1,a0.2.1.2,(),a0.2.2.2.1,a0.2.2.2.2.1,a0.2.2.2.2.2.1,a0.2.2.2.2.2.2.1,a0.2.2.2.2.2.2.2.1,(),a0.2.2.2.2.2.2.2.2.2.1,a0.2.2.2.2.2.2.2.2.2.2.1,a0.2.2.2.2.2.2.2.2.2.2.2,()),()),(a0.2.2.1,a0.2.2.2.2.2.2.2.2.1,()))) (fun y4 =>some ((true,()),((y4.2.1.1.1,(y4.2.1.1.2.1,y4.2.1.1.2.2.1),y4.2.2.1,y4.2.1.1.2.2.2.2.1,y4.2.1.1.2.2.2.2.2.1,y4.2.1.1.2.2.2.2.2.2.1,y4.2.1.1.2.2.2.2.2.2.2.1,y4.2.1.1.2.2.2.2.2.2.2.2.1,y4.2.2.2.1,y4.2.1.1.2.2.2.2.2.2.2.2.2.2.1,y4.2.1.1.2.2.2.2.2.2.2.2.2.2.2.1,y4.2.1.1.2.2.2.2.2.2.2.2.2.2.2.2.1),()))) (fun y4 =>some ((y4.1.1.1,()),((y4.2.1.1.1,(y4.2.1.1.2.1,y4.2.1.1.2.2.1),y4.2.2.1,y4.2.1.1.2.2.2.2.1,y4.2.1.1.2.2.2.2.2.1,y4.2.1.1.2.2.2.2.2.2.1,y4.2.1.1.2.2.2.2.2.2.2.1,y4.2.1.1.2.2.2.2.2.2.2.2.1,y4.2.2.2.1,y4.2.1.1.2.2.2.2.2.2.2.2.2.2.1,y4.2.1.1.2.2.2.2.2.2.2.2.2.2.2.1,y4.2.1.1.2.2.2.2.2.2.2.2.2.2.2.2.1),())))
theorem yML:ConOk prog 165 ⟨yhA,ymE,fun x=>ypw x.1⟩:=zkI (yJn) func165 ntmps165.symm fun x=>by kernel_rfl
def yit (a0:dA):Bool×dA:=(!(ya (yx a0)),yx a0)
def yfk (a0:dA):Bool:= !(ya a0)
theorem yPz (a0:dA) (hk:zjx yhA (a0,())) (hq:yfk a0=true):ypw a0=(fun n=>some ((n.1,()),(n.2,()))) (yit a0):=by
 have hb:a0.2.2.1.length*80≤2^47:=hk.1.2.2.1.1
 have h1:yna (yIr a0.2.2.1.length a0)=some (bif ya (yx a0)then .inr (ylV false (yx a0))else .inl (ylT (yx a0))):=by
  have:=zkC (step:=ybG) a0.2.2.1.length (fun i s=>yhk a0.2.2.1.length i s) (fun i s=>bif ya (yN s i)then(.inr (yN s i):dA ⊕ dA)else .inl (yN s i)) (fun _ s=>s.2.2.1.length=a0.2.2.1.length∧ya s=false) id
   (fun b=>bif ya b then .inr (ylV false b)else .inl (ylT b)) (fun i s hi hs=>by
    constructor
    ·rw[yKP hs.2]
     simp only[ybG,yhk,ylZ,hs.1,zky (show(i:Int)<a0.2.2.1.length by omega),cond_true,wq ((i:Int)+1) (by omega) (by omega),Int.natCast_add,Int.natCast_one,Int.toNat_natCast,zkR hi,zkX,ySB hs.2,yaE,yiv];cases hf:(nth s.2.2.1 i yh).2.2.1
     ·cases ho:(opA s).1
      ·have e:yN s i=(opA s).2:=by unfold yN; rw[hf,ho]; rfl
       have d:ya (opA s).2=true:=by rw[yWO hs.2,ho]; rfl
       rw[e];simp only[Bool.not_false,Bool.and_self,cond_true,cond_false,d,yaE,ylV]
      ·have e:yN s i=yeo (opA s).2 i (yy (nth s.2.2.1 i yh)):=by unfold yN; rw[hf,ho]; rfl
       rw[e];simp only[Bool.not_true,Bool.not_false,Bool.and_false,cond_true,cond_false,yhk,yeo,yaE,Int.toNat_natCast]
     ·have e:yN s i=s:=by unfold yN; rw[hf]; rfl
      rw[e]; rfl
    ·intro s' h
     cases hd:ya (yN s i)
     ·rw[hd]at h
      cases h;exact⟨(ylD s i).trans hs.1,hd⟩
     ·rw[hd]at h; cases h) (fun s hs=>by simp only[ybG,yhk,ylZ,hs.2,zk3 (Int.le_refl _),cond_false,id,ylT]) a0 ⟨rfl,by simpa [yfk]using hq⟩ 18446744073709551616 (by omega)
  rw[yDf (fun a i h=>yD0 i h),← List.range_eq_range']at this;exact this
 unfold ypw yit;rw[h1];cases hd:ya (yx a0)<;>rfl
def yfj (a0:dA):Option (zaY ymE×zak yhA):=bif yfk a0 then(fun n=>some ((n.1,()),(n.2,()))) (yit a0)else none
theorem yrq (a0:dA) (h:yfk a0=true):yfj a0=(fun n=>some ((n.1,()),(n.2,()))) (yit a0):=by unfold yfj; rw[h]; rfl
def yjd:Con:=⟨yhA,ymE,fun x=>yfj x.1⟩
theorem yrn:ConOk prog 165 yjd:=(yML).mono (fun x r hk h=>zkY h (fun hq=>yPz x.1 hk hq))
def yiX:Code:=(f97.body).getD .skip
def yoR:Env:=zkw TT [(88,yEB),(139,yiq),(164,yEA),(165,yjd)] []
theorem yHl:FrOk prog ⟨yoR,26,fun _=>none⟩ yiX:=zkA mixed yc ⟨yWw,yps,yWv,yrn,trivial⟩
def yuT:Nat→Option Seg:=fun _=>none
def yaM:Shape:=⟨[(0,false,[.ptr 1000000000 0]),(3,false,[.ptr 0 0]),(10,false,[.int .i64]),(11,false,[.int .i64])],[(0,[.int .i64,.int .i64,.br tI]),(1000000000,[.int .i64,.int .i64,.int .i64,.at 800000000,.int .i64,.int .i64,.int .i64,.int .i64,.int .i64,.at 800000001,.int .i64,.bool,.bool])],[(800000000,tM,(.pr (.ow (.ow .fz)) (.pr (.ow (.pr .fz (.ow .fz))) (.pr .fz (.ow .fz))))),(800000001,tW,(.pr .fz (.ow .fz)))]⟩
def ydA:Shape:=⟨[(0,false,[.ptr 1000000000 0]),(3,false,[.ptr 0 0]),(10,false,[.int .i64]),(11,false,[.ci .i64 0])],[(0,[.int .i64,.int .i64,.br tI]),(1000000000,[.int .i64,.int .i64,.int .i64,.at 800000000,.int .i64,.int .i64,.int .i64,.int .i64,.int .i64,.at 800000001,.int .i64,.bool,.bool])],[(800000000,tM,(.pr (.ow (.ow .fz)) (.pr (.ow (.pr .fz (.ow .fz))) (.pr .fz (.ow .fz))))),(800000001,tW,(.pr .fz (.ow .fz)))]⟩
def ydw:Shape:=⟨[(0,false,[.ptr 1000000000 0])],[(1000000000,[.int .i64,.int .i64,.int .i64,.at 800000000,.int .i64,.int .i64,.int .i64,.int .i64,.int .i64,.at 800000001,.int .i64,.bool,.bool])],[(800000000,tM,(.pr (.ow (.ow .fz)) (.pr (.ow (.pr .fz (.ow .fz))) (.pr .fz (.ow .fz))))),(800000001,tW,(.pr .fz (.ow .fz)))]⟩
def ydE:Shape:=⟨[(4,false,[.bool])],[(1000000000,[.int .i64,.int .i64,.int .i64,.at 800000000,.int .i64,.int .i64,.int .i64,.int .i64,.int .i64,.at 800000001,.int .i64,.bool,.bool])],[(800000000,tM,(.pr (.ow (.ow .fz)) (.pr (.ow (.pr .fz (.ow .fz))) (.pr .fz (.ow .fz))))),(800000001,tW,(.pr .fz (.ow .fz)))]⟩
abbrev yjL (v0 v1:Int) (v2:dN) (v3:dA):(yaM).X:=((((),()),((),()),(v0,()),(v1,()),()),((v2.1,v2.2.1,v2.2.2,()),(v3.1,v3.2.1.1,v3.2.1.2,(),v3.2.2.2.1,v3.2.2.2.2.1,v3.2.2.2.2.2.1,v3.2.2.2.2.2.2.1,v3.2.2.2.2.2.2.2.1,(),v3.2.2.2.2.2.2.2.2.2.1,v3.2.2.2.2.2.2.2.2.2.2.1,v3.2.2.2.2.2.2.2.2.2.2.2,()),()),(v3.2.2.1,v3.2.2.2.2.2.2.2.2.1,()))
abbrev yGH (v0:Int) (v1:dN) (v2:dA):(ydA).X:=((((),()),((),()),(v0,()),((),()),()),((v1.1,v1.2.1,v1.2.2,()),(v2.1,v2.2.1.1,v2.2.1.2,(),v2.2.2.2.1,v2.2.2.2.2.1,v2.2.2.2.2.2.1,v2.2.2.2.2.2.2.1,v2.2.2.2.2.2.2.2.1,(),v2.2.2.2.2.2.2.2.2.2.1,v2.2.2.2.2.2.2.2.2.2.2.1,v2.2.2.2.2.2.2.2.2.2.2.2,()),()),(v2.2.2.1,v2.2.2.2.2.2.2.2.2.1,()))
abbrev yjP (v0:dA):(ydw).X:=((((),()),()),((v0.1,v0.2.1.1,v0.2.1.2,(),v0.2.2.2.1,v0.2.2.2.2.1,v0.2.2.2.2.2.1,v0.2.2.2.2.2.2.1,v0.2.2.2.2.2.2.2.1,(),v0.2.2.2.2.2.2.2.2.2.1,v0.2.2.2.2.2.2.2.2.2.2.1,v0.2.2.2.2.2.2.2.2.2.2.2,()),()),(v0.2.2.1,v0.2.2.2.2.2.2.2.2.1,()))
abbrev yjS (v0:Bool) (v1:dA):(ydE).X:=(((v0,()),()),((v1.1,v1.2.1.1,v1.2.1.2,(),v1.2.2.2.1,v1.2.2.2.2.1,v1.2.2.2.2.2.1,v1.2.2.2.2.2.2.1,v1.2.2.2.2.2.2.2.1,(),v1.2.2.2.2.2.2.2.2.2.1,v1.2.2.2.2.2.2.2.2.2.2.1,v1.2.2.2.2.2.2.2.2.2.2.2,()),()),(v1.2.2.1,v1.2.2.2.2.2.2.2.2.1,()))
def ykh (v0 v1 v2 v3:Int) (v4:List Int) (v5 v6 v7 v8 v9 v10 v11 v12 v13:Int) (v14 v15:Bool) (v16:List dM) (v17:List dW):Option ((yaM).X ⊕ ((ydw).X ⊕ (ydE).X)) :=bif(ltb v1 v0)then let r4:=yqz v2;let r5:=ylk (v2,v3,v4);bnd (yex (v5,(v6,v7),v16,v8,v9,v10,v11,v12,v17,v13,v14,v15) v1 r4 r5) fun r6 =>bif(!r6.1.1)then some (.inr (.inr (((false,()),()),((r6.2.1.1,r6.2.1.2.1.1,r6.2.1.2.1.2,(),r6.2.1.2.2.2.1,r6.2.1.2.2.2.2.1,r6.2.1.2.2.2.2.2.1,r6.2.1.2.2.2.2.2.2.1,r6.2.1.2.2.2.2.2.2.2.1,(),r6.2.1.2.2.2.2.2.2.2.2.2.1,r6.2.1.2.2.2.2.2.2.2.2.2.2.1,r6.2.1.2.2.2.2.2.2.2.2.2.2.2,()),()),(r6.2.1.2.2.1,r6.2.1.2.2.2.2.2.2.2.2.1,())))) else some (.inl ((((),()),((),()),(v0,()),((i64.wrap (v1+1)),()),()),((v2,v3,v4,()),(r6.2.1.1,r6.2.1.2.1.1,r6.2.1.2.1.2,(),r6.2.1.2.2.2.1,r6.2.1.2.2.2.2.1,r6.2.1.2.2.2.2.2.1,r6.2.1.2.2.2.2.2.2.1,r6.2.1.2.2.2.2.2.2.2.1,(),r6.2.1.2.2.2.2.2.2.2.2.2.1,r6.2.1.2.2.2.2.2.2.2.2.2.2.1,r6.2.1.2.2.2.2.2.2.2.2.2.2.2,()),()),(r6.2.1.2.2.1,r6.2.1.2.2.2.2.2.2.2.2.1,()))) else some (.inr (.inl ((((),()),()),((v5,v6,v7,(),v8,v9,v10,v11,v12,(),v13,v14,v15,()),()),(v16,v17,()))))
def yaU (x:(yaM).X):=ykh x.1.2.2.1.1 x.1.2.2.2.1.1 x.2.1.1.1 x.2.1.1.2.1 x.2.1.1.2.2.1 x.2.1.2.1.1 x.2.1.2.1.2.1 x.2.1.2.1.2.2.1 x.2.1.2.1.2.2.2.2.1 x.2.1.2.1.2.2.2.2.2.1 x.2.1.2.1.2.2.2.2.2.2.1 x.2.1.2.1.2.2.2.2.2.2.2.1 x.2.1.2.1.2.2.2.2.2.2.2.2.1 x.2.1.2.1.2.2.2.2.2.2.2.2.2.2.1 x.2.1.2.1.2.2.2.2.2.2.2.2.2.2.2.1 x.2.1.2.1.2.2.2.2.2.2.2.2.2.2.2.2.1 x.2.2.1 x.2.2.2.1
def yr4 (x:(ydA).X):(yaM).X:=((((),()),((),()),(x.1.2.2.1.1,()),(0,()),()),((x.2.1.1.1,x.2.1.1.2.1,x.2.1.1.2.2.1,()),(x.2.1.2.1.1,x.2.1.2.1.2.1,x.2.1.2.1.2.2.1,(),x.2.1.2.1.2.2.2.2.1,x.2.1.2.1.2.2.2.2.2.1,x.2.1.2.1.2.2.2.2.2.2.1,x.2.1.2.1.2.2.2.2.2.2.2.1,x.2.1.2.1.2.2.2.2.2.2.2.2.1,(),x.2.1.2.1.2.2.2.2.2.2.2.2.2.2.1,x.2.1.2.1.2.2.2.2.2.2.2.2.2.2.2.1,x.2.1.2.1.2.2.2.2.2.2.2.2.2.2.2.2.1,()),()),(x.2.2.1,x.2.2.2.1,()))
def ytH:Code:=(zd7 yiX 64 52).getD .skip
theorem yHc:zd7 yiX 64 13=some (.block 0 (.loop ytH)):=by kernel_rfl
theorem yHP (x:(yaM).X):zhu ⟨yoR,26,yuT⟩ 0 ytH 52 yaM ydw ydE x=yaU x:=by kernel_rfl
def yr8 (x:(ydA).X):Nat:=18446744073709551616
def yks (x:(ydA).X):Option ((ydw).X ⊕ (ydE).X):=zF yaU (yr8 x) (yr4 x)
def ysf:Seg:=⟨ydA,ydw,ydE,yks⟩
def yH8:Nat→Option Seg:=fun q=>bif Nat.beq q 13 then some ysf else yuT q
theorem yHm:FrOk prog ⟨yoR,26,yH8⟩ yiX:=(yHl).loop (sg:=ysf) yaM yr4 (by decide) yHc yaU yr8 (by decide) (fun _=>rfl) (fun x r _ h=>h) yHP
abbrev yfy:List Par:= [.pt tA (.pr .fz (.pr (.pr .fz .fz) (.pr (.ow (.pr (.ow (.ow .fz)) (.pr (.ow (.pr .fz (.ow .fz))) (.pr .fz (.ow .fz))))) (.pr .fz (.pr .fz (.pr .fz (.pr .fz (.pr .fz (.pr (.ow (.pr .fz (.ow .fz))) (.pr .fz (.pr .fz .fz))))))))))),.rd tN]
abbrev yi2:List OT:= [⟨false,tB,.fz⟩]
def ylW (a0:dA) (a1:dN):Option (zaY yi2×zak yfy) :=zkt (yks ((((),()),((),()),((a0.2.2.1.length:Int),()),((),()),()),((a1.1,a1.2.1,a1.2.2,()),(a0.1,a0.2.1.1,a0.2.1.2,(),a0.2.2.2.1,a0.2.2.2.2.1,a0.2.2.2.2.2.1,a0.2.2.2.2.2.2.1,a0.2.2.2.2.2.2.2.1,(),a0.2.2.2.2.2.2.2.2.2.1,a0.2.2.2.2.2.2.2.2.2.2.1,a0.2.2.2.2.2.2.2.2.2.2.2,()),()),(a0.2.2.1,a0.2.2.2.2.2.2.2.2.1,()))) (fun y6 =>bnd (yfj (y6.2.1.1.1,(y6.2.1.1.2.1,y6.2.1.1.2.2.1),y6.2.2.1,y6.2.1.1.2.2.2.2.1,y6.2.1.1.2.2.2.2.2.1,y6.2.1.1.2.2.2.2.2.2.1,y6.2.1.1.2.2.2.2.2.2.2.1,y6.2.1.1.2.2.2.2.2.2.2.2.1,y6.2.2.2.1,y6.2.1.1.2.2.2.2.2.2.2.2.2.2.1,y6.2.1.1.2.2.2.2.2.2.2.2.2.2.2.1,y6.2.1.1.2.2.2.2.2.2.2.2.2.2.2.2.1)) fun r8 =>some ((r8.1.1,()),(r8.2.1,()))) (fun y6 =>some ((y6.1.1.1,()),((y6.2.1.1.1,(y6.2.1.1.2.1,y6.2.1.1.2.2.1),y6.2.2.1,y6.2.1.1.2.2.2.2.1,y6.2.1.1.2.2.2.2.2.1,y6.2.1.1.2.2.2.2.2.2.1,y6.2.1.1.2.2.2.2.2.2.2.1,y6.2.1.1.2.2.2.2.2.2.2.2.1,y6.2.2.2.1,y6.2.1.1.2.2.2.2.2.2.2.2.2.2.1,y6.2.1.1.2.2.2.2.2.2.2.2.2.2.2.1,y6.2.1.1.2.2.2.2.2.2.2.2.2.2.2.2.1),())))
theorem yIE:ConOk prog 97 ⟨yfy,yi2,fun x=>ylW x.1 x.2.1⟩:=zkI (yHm) func97 ntmps97.symm fun x=>by kernel_rfl
def yf3 (a0:dA) (a1:dN):Bool×dA:=(!(ya (yQ a0 a1)),yQ a0 a1)
def yf5 (a0:dA) (a1:dN):Bool:= !(ya a0)
theorem yKk (a0:dA) (a1:dN) (hk:zjx yfy (a0,a1,())) (hq:yf5 a0 a1=true):ylW a0 a1=(fun n=>some ((n.1,()),(n.2,()))) (yf3 a0 a1):=by
 have hb:a0.2.2.1.length*80≤2^47:=hk.1.2.2.1.1;have hd0:ya a0=false:=by simpa [yf5]using hq
 have h1:yks (yGH a0.2.2.1.length a1 a0)=some (bif ya ((List.range a0.2.2.1.length).foldl (ybz a1) a0)then .inr (yjS false ((List.range a0.2.2.1.length).foldl (ybz a1) a0))else .inl (yjP ((List.range a0.2.2.1.length).foldl (ybz a1) a0))):=by
  have:=zkC (step:=yaU) a0.2.2.1.length (fun i s=>yjL a0.2.2.1.length i a1 s) (fun i s=>bif ya (ybz a1 s i)then(.inr (ybz a1 s i):dA ⊕ dA)else .inl (ybz a1 s i)) (fun _ s=>s.2.2.1.length=a0.2.2.1.length∧ya s=false) id
   (fun b=>bif ya b then .inr (yjS false b)else .inl (yjP b)) (fun i s hi hs=>by
    constructor
    ·simp only[yaU,yjL,ykh,zky (show(i:Int)<a0.2.2.1.length by omega),cond_true,wq ((i:Int)+1) (by omega) (by omega),Int.natCast_add,Int.natCast_one,Int.toNat_natCast,zkX,yZQ,ylk]
     rw[ypt s i (yT a1.1) (ylw a1) (by unfold ycS; rw[zkR (by rw[hs.1]; exact hi),hs.2]; rfl)];simp only[zkH,ycO];rw[show ycR s i (yT a1.1) (ylw a1)=ybz a1 s i from rfl];cases hd:ya (ybz a1 s i)
     ·rfl
     ·simp only[hd,Bool.not_true,Bool.not_false,cond_true,yjS]
    ·intro s' h
     cases hd:ya (ybz a1 s i)
     ·rw[hd]at h
      cases h;exact⟨(yoO a1 s i).trans hs.1,hd⟩
     ·rw[hd]at h; cases h) (fun s hs=>by simp only[yaU,yjL,ykh,hs.2,zk3 (Int.le_refl _),cond_false,id,yjP]) a0 ⟨rfl,hd0⟩ 18446744073709551616 (by omega)
  rw[yDf (fun a i h=>yNB a1 i h),← List.range_eq_range']at this;exact this
 unfold ylW yf3 yQ;refine(congrArg (fun z=>zkt z _ _) h1).trans ?_;cases hd:ya ((List.range a0.2.2.1.length).foldl (ybz a1) a0)
 ·simp only[cond_false,zkN,zkX]
  rw[yrq _ (by unfold yfk; rw[hd]; rfl)]; rfl
 ·rw[yFC hd]
  simp only[cond_true,zkO,zkX];rw[hd]; rfl
def ydO (a0:dA) (a1:dN):Option (zaY yi2×zak yfy):=bif yf5 a0 a1 then(fun n=>some ((n.1,()),(n.2,()))) (yf3 a0 a1)else none
theorem yKC (a0:dA) (a1:dN) (h:yf5 a0 a1=true):ydO a0 a1=(fun n=>some ((n.1,()),(n.2,()))) (yf3 a0 a1):=by unfold ydO; rw[h]; rfl
def yuZ:Con:=⟨yfy,yi2,fun x=>ydO x.1 x.2.1⟩
theorem yKw:ConOk prog 97 yuZ:=(yIE).mono (fun x r hk h=>zkY h (fun hq=>yKk x.1 x.2.1 hk hq))
def yLa:Code:=(f166.body).getD .skip
def yLq:Env:=zkw TT [(185,yoA)] []
theorem yHo:FrOk prog ⟨yLq,5,fun _=>none⟩ yLa:=zkA mixed yc ⟨yzG,trivial⟩
abbrev yo6:List Par:= [.rd tL]
abbrev yo9:List OT:= [⟨false,tI,.fz⟩]
def yvq (a0:List Int):Option (zaY yo9×zak yo6) :=let r1:=ycw a0;some ((r1,()),())
theorem yIG:ConOk prog 166 ⟨yo6,yo9,fun x=>yvq x.1⟩:=zkI (yHo) func166 ntmps166.symm fun x=>by kernel_rfl
def yji (a0:List Int):Int :=let r1:=ycw a0;r1
def yu1:Con:=⟨yo6,yo9,fun x=>(fun n=>some ((n,()),())) (yji x.1)⟩
theorem yKm (a0:List Int):yvq a0=(fun n=>some ((n,()),())) (yji a0):=zkV (p:=fun(n:Int)=>((n,()),())) rfl
theorem yKy:ConOk prog 166 yu1:=(yIG).mono (fun x r _ h=>(yKm x.1).trans h)
def ycD:Code:=(f98.body).getD .skip
def ygp:Env:=zkw TT [(111,ytM),(139,yiq),(142,ytO),(166,yu1),(167,ypd),(168,ytQ)] []
theorem yIf:FrOk prog ⟨ygp,70,fun _=>none⟩ ycD:=zkA mixed yc ⟨yGL,yps,yGN,yKy,yDt,yGO,trivial⟩
def yw9:Nat→Option Seg:=fun _=>none
def yaZ:Shape:=⟨[(0,false,[.ptr 1000000000 0]),(1,false,[.int .i64]),(7,false,[.at 800000000]),(28,false,[.br tI]),(29,false,[.int .i64]),(30,false,[.int .i64])],[(1000000000,[.int .i64,.int .i64,.int .i64,.at 800000001,.int .i64,.int .i64,.int .i64,.int .i64,.int .i64,.at 800000002,.int .i64,.bool,.bool])],[(800000000,tI,.fz),(800000001,tM,(.pr (.ow (.ow .fz)) (.pr (.ow (.pr .fz (.ow .fz))) (.pr .fz (.ow .fz))))),(800000002,tW,(.pr .fz (.ow .fz)))]⟩
def yei:Shape:=⟨[(0,false,[.ptr 1000000000 0]),(1,false,[.int .i64]),(7,false,[.at 800000000]),(28,false,[.br tI]),(29,false,[.int .i64]),(30,false,[.ci .i64 0])],[(1000000000,[.int .i64,.int .i64,.int .i64,.at 800000001,.int .i64,.int .i64,.int .i64,.int .i64,.int .i64,.at 800000002,.int .i64,.bool,.bool])],[(800000000,tI,.fz),(800000001,tM,(.pr (.ow (.ow .fz)) (.pr (.ow (.pr .fz (.ow .fz))) (.pr .fz (.ow .fz))))),(800000002,tW,(.pr .fz (.ow .fz)))]⟩
def yed:Shape:=⟨[(0,false,[.ptr 1000000000 0]),(1,false,[.int .i64]),(7,false,[.at 800000000])],[(1000000000,[.int .i64,.int .i64,.int .i64,.at 800000001,.int .i64,.int .i64,.int .i64,.int .i64,.int .i64,.at 800000002,.int .i64,.bool,.bool])],[(800000000,tI,.fz),(800000001,tM,(.pr (.ow (.ow .fz)) (.pr (.ow (.pr .fz (.ow .fz))) (.pr .fz (.ow .fz))))),(800000002,tW,(.pr .fz (.ow .fz)))]⟩
def yhf:Shape:=⟨[],[],[]⟩
abbrev ykM (v0:Int) (v1:List Int) (v2 v3:Int) (v4:dA) (v5:List Int):(yaZ).X:=((((),()),(v0,()),((),()),(v1,()),(v2,()),(v3,()),()),((v4.1,v4.2.1.1,v4.2.1.2,(),v4.2.2.2.1,v4.2.2.2.2.1,v4.2.2.2.2.2.1,v4.2.2.2.2.2.2.1,v4.2.2.2.2.2.2.2.1,(),v4.2.2.2.2.2.2.2.2.2.1,v4.2.2.2.2.2.2.2.2.2.2.1,v4.2.2.2.2.2.2.2.2.2.2.2,()),()),(v5,v4.2.2.1,v4.2.2.2.2.2.2.2.2.1,()))
abbrev yHy (v0:Int) (v1:List Int) (v2:Int) (v3:dA) (v4:List Int):(yei).X:=((((),()),(v0,()),((),()),(v1,()),(v2,()),((),()),()),((v3.1,v3.2.1.1,v3.2.1.2,(),v3.2.2.2.1,v3.2.2.2.2.1,v3.2.2.2.2.2.1,v3.2.2.2.2.2.2.1,v3.2.2.2.2.2.2.2.1,(),v3.2.2.2.2.2.2.2.2.2.1,v3.2.2.2.2.2.2.2.2.2.2.1,v3.2.2.2.2.2.2.2.2.2.2.2,()),()),(v4,v3.2.2.1,v3.2.2.2.2.2.2.2.2.1,()))
abbrev yuj (v0:Int) (v1:dA) (v2:List Int):(yed).X:=((((),()),(v0,()),((),()),()),((v1.1,v1.2.1.1,v1.2.1.2,(),v1.2.2.2.1,v1.2.2.2.2.1,v1.2.2.2.2.2.1,v1.2.2.2.2.2.2.1,v1.2.2.2.2.2.2.2.1,(),v1.2.2.2.2.2.2.2.2.2.1,v1.2.2.2.2.2.2.2.2.2.2.1,v1.2.2.2.2.2.2.2.2.2.2.2,()),()),(v2,v1.2.2.1,v1.2.2.2.2.2.2.2.2.1,()))
def ykZ (v0:Int) (v1:List Int) (v2 v3 v4 v5 v6 v7 v8 v9 v10 v11 v12:Int) (v13 v14:Bool) (v15:List Int) (v16:List dM) (v17:List dW):Option ((yaZ).X ⊕ ((yed).X ⊕ (yhf).X)) :=bif(ltb v3 v2)then bif(inb v3 v1.length)then let r5:=yfs (v5,v6) v0 v3;bif(inb r5 v15.length)then some (.inl ((((),()),(v0,()),((),()),(v1,()),(v2,()),((i64.wrap (v3+1)),()),()),((v4,v5,v6,(),v7,v8,v9,v10,v11,(),v12,v13,v14,()),()),((v15.set (r5).toNat (nth v1 v3 0)),v16,v17,()))) else none else none else some (.inr (.inl ((((),()),(v0,()),((),()),()),((v4,v5,v6,(),v7,v8,v9,v10,v11,(),v12,v13,v14,()),()),(v15,v16,v17,()))))
def ybh (x:(yaZ).X):=ykZ x.1.2.1.1 x.1.2.2.2.1.1 x.1.2.2.2.2.1.1 x.1.2.2.2.2.2.1.1 x.2.1.1.1 x.2.1.1.2.1 x.2.1.1.2.2.1 x.2.1.1.2.2.2.2.1 x.2.1.1.2.2.2.2.2.1 x.2.1.1.2.2.2.2.2.2.1 x.2.1.1.2.2.2.2.2.2.2.1 x.2.1.1.2.2.2.2.2.2.2.2.1 x.2.1.1.2.2.2.2.2.2.2.2.2.2.1 x.2.1.1.2.2.2.2.2.2.2.2.2.2.2.1 x.2.1.1.2.2.2.2.2.2.2.2.2.2.2.2.1 x.2.2.1 x.2.2.2.1 x.2.2.2.2.1
def yt1 (x:(yei).X):(yaZ).X:=((((),()),(x.1.2.1.1,()),((),()),(x.1.2.2.2.1.1,()),(x.1.2.2.2.2.1.1,()),(0,()),()),((x.2.1.1.1,x.2.1.1.2.1,x.2.1.1.2.2.1,(),x.2.1.1.2.2.2.2.1,x.2.1.1.2.2.2.2.2.1,x.2.1.1.2.2.2.2.2.2.1,x.2.1.1.2.2.2.2.2.2.2.1,x.2.1.1.2.2.2.2.2.2.2.2.1,(),x.2.1.1.2.2.2.2.2.2.2.2.2.2.1,x.2.1.1.2.2.2.2.2.2.2.2.2.2.2.1,x.2.1.1.2.2.2.2.2.2.2.2.2.2.2.2.1,()),()),(x.2.2.1,x.2.2.2.1,x.2.2.2.2.1,()))
def yuU:Code:=(zd7 ycD 64 244).getD .skip
theorem yH9:zd7 ycD 64 61=some (.block 0 (.loop yuU)):=by kernel_rfl
theorem yIO (x:(yaZ).X):zhu ⟨ygp,70,yw9⟩ 0 yuU 244 yaZ yed yhf x=ybh x:=by kernel_rfl
def yt6 (x:(yei).X):Nat:=18446744073709551616
def ylE (x:(yei).X):Option ((yed).X ⊕ (yhf).X):=zF ybh (yt6 x) (yt1 x)
def yuL:Seg:=⟨yei,yed,yhf,ylE⟩
def ym4:Nat→Option Seg:=fun q=>bif Nat.beq q 61 then some yuL else yw9 q
theorem yIg:FrOk prog ⟨ygp,70,ym4⟩ ycD:=(yIf).loop (sg:=yuL) yaZ yt1 (by decide) yH9 ybh yt6 (by decide) (fun _=>rfl) (fun x r _ h=>h) yIO
def yaN:Shape:=⟨[(0,false,[.ptr 1000000000 0]),(1,false,[.int .i64]),(46,false,[.at 800000000]),(47,false,[.int .i64]),(48,false,[.int .i64])],[(1000000000,[.int .i64,.int .i64,.int .i64,.at 800000001,.int .i64,.int .i64,.int .i64,.int .i64,.int .i64,.at 800000002,.int .i64,.bool,.bool])],[(800000000,tI,.fz),(800000001,tM,(.pr (.ow (.ow .fz)) (.pr (.ow (.pr .fz (.ow .fz))) (.pr .fz (.ow .fz))))),(800000002,tW,(.pr .fz (.ow .fz)))]⟩
def ydB:Shape:=⟨[(0,false,[.ptr 1000000000 0]),(1,false,[.int .i64]),(46,false,[.at 800000000]),(47,false,[.int .i64]),(48,false,[.ci .i64 0])],[(1000000000,[.int .i64,.int .i64,.int .i64,.at 800000001,.int .i64,.int .i64,.int .i64,.int .i64,.int .i64,.at 800000002,.int .i64,.bool,.bool])],[(800000000,tI,.fz),(800000001,tM,(.pr (.ow (.ow .fz)) (.pr (.ow (.pr .fz (.ow .fz))) (.pr .fz (.ow .fz))))),(800000002,tW,(.pr .fz (.ow .fz)))]⟩
def ydx:Shape:=⟨[],[(1000000000,[.int .i64,.int .i64,.int .i64,.at 800000000,.int .i64,.int .i64,.int .i64,.int .i64,.int .i64,.at 800000001,.int .i64,.bool,.bool])],[(800000000,tM,(.pr (.ow (.ow .fz)) (.pr (.ow (.pr .fz (.ow .fz))) (.pr .fz (.ow .fz))))),(800000001,tW,(.pr .fz (.ow .fz)))]⟩
def ydF:Shape:=⟨[(6,false,[.bool])],[(1000000000,[.int .i64,.int .i64,.int .i64,.at 800000000,.int .i64,.int .i64,.int .i64,.int .i64,.int .i64,.at 800000001,.int .i64,.bool,.bool])],[(800000000,tM,(.pr (.ow (.ow .fz)) (.pr (.ow (.pr .fz (.ow .fz))) (.pr .fz (.ow .fz))))),(800000001,tW,(.pr .fz (.ow .fz)))]⟩
abbrev yjM (v0 v1 v2:Int) (v3:dA) (v4:List Int):(yaN).X:=((((),()),(v0,()),((),()),(v1,()),(v2,()),()),((v3.1,v3.2.1.1,v3.2.1.2,(),v3.2.2.2.1,v3.2.2.2.2.1,v3.2.2.2.2.2.1,v3.2.2.2.2.2.2.1,v3.2.2.2.2.2.2.2.1,(),v3.2.2.2.2.2.2.2.2.2.1,v3.2.2.2.2.2.2.2.2.2.2.1,v3.2.2.2.2.2.2.2.2.2.2.2,()),()),(v4,v3.2.2.1,v3.2.2.2.2.2.2.2.2.1,()))
abbrev yGI (v0 v1:Int) (v2:dA) (v3:List Int):(ydB).X:=((((),()),(v0,()),((),()),(v1,()),((),()),()),((v2.1,v2.2.1.1,v2.2.1.2,(),v2.2.2.2.1,v2.2.2.2.2.1,v2.2.2.2.2.2.1,v2.2.2.2.2.2.2.1,v2.2.2.2.2.2.2.2.1,(),v2.2.2.2.2.2.2.2.2.2.1,v2.2.2.2.2.2.2.2.2.2.2.1,v2.2.2.2.2.2.2.2.2.2.2.2,()),()),(v3,v2.2.2.1,v2.2.2.2.2.2.2.2.2.1,()))
abbrev yjQ (v0:dA):(ydx).X:=((),((v0.1,v0.2.1.1,v0.2.1.2,(),v0.2.2.2.1,v0.2.2.2.2.1,v0.2.2.2.2.2.1,v0.2.2.2.2.2.2.1,v0.2.2.2.2.2.2.2.1,(),v0.2.2.2.2.2.2.2.2.2.1,v0.2.2.2.2.2.2.2.2.2.2.1,v0.2.2.2.2.2.2.2.2.2.2.2,()),()),(v0.2.2.1,v0.2.2.2.2.2.2.2.2.1,()))
abbrev yjT (v0:Bool) (v1:dA):(ydF).X:=(((v0,()),()),((v1.1,v1.2.1.1,v1.2.1.2,(),v1.2.2.2.1,v1.2.2.2.2.1,v1.2.2.2.2.2.1,v1.2.2.2.2.2.2.1,v1.2.2.2.2.2.2.2.1,(),v1.2.2.2.2.2.2.2.2.2.1,v1.2.2.2.2.2.2.2.2.2.2.1,v1.2.2.2.2.2.2.2.2.2.2.2,()),()),(v1.2.2.1,v1.2.2.2.2.2.2.2.2.1,()))
def yki (v0 v1 v2 v3 v4 v5 v6 v7 v8 v9 v10 v11:Int) (v12 v13:Bool) (v14:List Int) (v15:List dM) (v16:List dW):Option ((yaN).X ⊕ ((ydx).X ⊕ (ydF).X)) :=bif(ltb v2 v1)then bif(inb v2 v14.length)then let r10:=yft (v3,(v4,v5),v15,v6,v7,v8,v9,v10,v16,v11,v12,v13) v2 v0;bif r10 then let r11:=ylj v0;bnd (yex (v3,(v4,v5),v15,v6,v7,v8,v9,v10,v16,v11,v12,v13) v2 r11 ([(nth v14 v2 0)]:List Int)) fun r12 =>bif(!r12.1.1)then some (.inr (.inr (((false,()),()),((r12.2.1.1,r12.2.1.2.1.1,r12.2.1.2.1.2,(),r12.2.1.2.2.2.1,r12.2.1.2.2.2.2.1,r12.2.1.2.2.2.2.2.1,r12.2.1.2.2.2.2.2.2.1,r12.2.1.2.2.2.2.2.2.2.1,(),r12.2.1.2.2.2.2.2.2.2.2.2.1,r12.2.1.2.2.2.2.2.2.2.2.2.2.1,r12.2.1.2.2.2.2.2.2.2.2.2.2.2,()),()),(r12.2.1.2.2.1,r12.2.1.2.2.2.2.2.2.2.2.1,())))) else some (.inl ((((),()),(v0,()),((),()),(v1,()),((i64.wrap (v2+1)),()),()),((r12.2.1.1,r12.2.1.2.1.1,r12.2.1.2.1.2,(),r12.2.1.2.2.2.1,r12.2.1.2.2.2.2.1,r12.2.1.2.2.2.2.2.1,r12.2.1.2.2.2.2.2.2.1,r12.2.1.2.2.2.2.2.2.2.1,(),r12.2.1.2.2.2.2.2.2.2.2.2.1,r12.2.1.2.2.2.2.2.2.2.2.2.2.1,r12.2.1.2.2.2.2.2.2.2.2.2.2.2,()),()),(v14,r12.2.1.2.2.1,r12.2.1.2.2.2.2.2.2.2.2.1,()))) else some (.inl ((((),()),(v0,()),((),()),(v1,()),((i64.wrap (v2+1)),()),()),((v3,v4,v5,(),v6,v7,v8,v9,v10,(),v11,v12,v13,()),()),(v14,v15,v16,()))) else none else some (.inr (.inl ((),((v3,v4,v5,(),v6,v7,v8,v9,v10,(),v11,v12,v13,()),()),(v15,v16,()))))
def yaV (x:(yaN).X):=yki x.1.2.1.1 x.1.2.2.2.1.1 x.1.2.2.2.2.1.1 x.2.1.1.1 x.2.1.1.2.1 x.2.1.1.2.2.1 x.2.1.1.2.2.2.2.1 x.2.1.1.2.2.2.2.2.1 x.2.1.1.2.2.2.2.2.2.1 x.2.1.1.2.2.2.2.2.2.2.1 x.2.1.1.2.2.2.2.2.2.2.2.1 x.2.1.1.2.2.2.2.2.2.2.2.2.2.1 x.2.1.1.2.2.2.2.2.2.2.2.2.2.2.1 x.2.1.1.2.2.2.2.2.2.2.2.2.2.2.2.1 x.2.2.1 x.2.2.2.1 x.2.2.2.2.1
def yr5 (x:(ydB).X):(yaN).X:=((((),()),(x.1.2.1.1,()),((),()),(x.1.2.2.2.1.1,()),(0,()),()),((x.2.1.1.1,x.2.1.1.2.1,x.2.1.1.2.2.1,(),x.2.1.1.2.2.2.2.1,x.2.1.1.2.2.2.2.2.1,x.2.1.1.2.2.2.2.2.2.1,x.2.1.1.2.2.2.2.2.2.2.1,x.2.1.1.2.2.2.2.2.2.2.2.1,(),x.2.1.1.2.2.2.2.2.2.2.2.2.2.1,x.2.1.1.2.2.2.2.2.2.2.2.2.2.2.1,x.2.1.1.2.2.2.2.2.2.2.2.2.2.2.2.1,()),()),(x.2.2.1,x.2.2.2.1,x.2.2.2.2.1,()))
def ytI:Code:=(zd7 ycD 64 500).getD .skip
theorem yHd:zd7 ycD 64 125=some (.block 2 (.loop ytI)):=by kernel_rfl
theorem yHQ (x:(yaN).X):zhu ⟨ygp,70,ym4⟩ 2 ytI 500 yaN ydx ydF x=yaV x:=by kernel_rfl
def yr9 (x:(ydB).X):Nat:=18446744073709551616
def ykt (x:(ydB).X):Option ((ydx).X ⊕ (ydF).X):=zF yaV (yr9 x) (yr5 x)
def ysg:Seg:=⟨ydB,ydx,ydF,ykt⟩
def yIW:Nat→Option Seg:=fun q=>bif Nat.beq q 125 then some ysg else ym4 q
theorem yIh:FrOk prog ⟨ygp,70,yIW⟩ ycD:=(yIg).loop (sg:=ysg) yaN yr5 (by decide) yHd yaV yr9 (by decide) (fun _=>rfl) (fun x r _ h=>h) yHQ
abbrev ygt:List Par:= [.pt tA (.pr .fz (.pr (.pr .fz .fz) (.pr (.ow (.pr (.ow (.ow .fz)) (.pr (.ow (.pr .fz (.ow .fz))) (.pr .fz (.ow .fz))))) (.pr .fz (.pr .fz (.pr .fz (.pr .fz (.pr .fz (.pr (.ow (.pr .fz (.ow .fz))) (.pr .fz (.pr .fz .fz))))))))))),.rd tI,.rd tL]
abbrev ykx:List OT:= [⟨false,tB,.fz⟩]
def ynR (a0:dA) (a1:Int) (a2:List Int):Option (zaY ykx×zak ygt) :=bif(zks a0.2.1.1 8)then let r1:=ydG a0.2.1 a1;let r2:=yji a2;bif(inb r1 (List.replicate (a0.2.1.1).toNat (0:Int)).length)then let r3:=((List.replicate (a0.2.1.1).toNat (0:Int)).set (r1).toNat r2);zkt (ylE ((((),()),(a1,()),((),()),(a2,()),((a2.length:Int),()),((),()),()),((a0.1,a0.2.1.1,a0.2.1.2,(),a0.2.2.2.1,a0.2.2.2.2.1,a0.2.2.2.2.2.1,a0.2.2.2.2.2.2.1,a0.2.2.2.2.2.2.2.1,(),a0.2.2.2.2.2.2.2.2.2.1,a0.2.2.2.2.2.2.2.2.2.2.1,a0.2.2.2.2.2.2.2.2.2.2.2,()),()),(r3,a0.2.2.1,a0.2.2.2.2.2.2.2.2.1,()))) (fun y5 =>zkt (ykt ((((),()),(y5.1.2.1.1,()),((),()),((y5.2.2.1.length:Int),()),((),()),()),((y5.2.1.1.1,y5.2.1.1.2.1,y5.2.1.1.2.2.1,(),y5.2.1.1.2.2.2.2.1,y5.2.1.1.2.2.2.2.2.1,y5.2.1.1.2.2.2.2.2.2.1,y5.2.1.1.2.2.2.2.2.2.2.1,y5.2.1.1.2.2.2.2.2.2.2.2.1,(),y5.2.1.1.2.2.2.2.2.2.2.2.2.2.1,y5.2.1.1.2.2.2.2.2.2.2.2.2.2.2.1,y5.2.1.1.2.2.2.2.2.2.2.2.2.2.2.2.1,()),()),(y5.2.2.1,y5.2.2.2.1,y5.2.2.2.2.1,()))) (fun y12 =>some ((true,()),((y12.2.1.1.1,(y12.2.1.1.2.1,y12.2.1.1.2.2.1),y12.2.2.1,y12.2.1.1.2.2.2.2.1,y12.2.1.1.2.2.2.2.2.1,y12.2.1.1.2.2.2.2.2.2.1,y12.2.1.1.2.2.2.2.2.2.2.1,y12.2.1.1.2.2.2.2.2.2.2.2.1,y12.2.2.2.1,y12.2.1.1.2.2.2.2.2.2.2.2.2.2.1,y12.2.1.1.2.2.2.2.2.2.2.2.2.2.2.1,y12.2.1.1.2.2.2.2.2.2.2.2.2.2.2.2.1),()))) (fun y12 =>some ((y12.1.1.1,()),((y12.2.1.1.1,(y12.2.1.1.2.1,y12.2.1.1.2.2.1),y12.2.2.1,y12.2.1.1.2.2.2.2.1,y12.2.1.1.2.2.2.2.2.1,y12.2.1.1.2.2.2.2.2.2.1,y12.2.1.1.2.2.2.2.2.2.2.1,y12.2.1.1.2.2.2.2.2.2.2.2.1,y12.2.2.2.1,y12.2.1.1.2.2.2.2.2.2.2.2.2.2.1,y12.2.1.1.2.2.2.2.2.2.2.2.2.2.2.1,y12.2.1.1.2.2.2.2.2.2.2.2.2.2.2.2.1),())))) (fun y5 =>none) else none else none
theorem yKq:ConOk prog 98 ⟨ygt,ykx,fun x=>ynR x.1 x.2.1 x.2.2.1⟩:=zkI (yIh) func98 ntmps98.symm fun x=>by kernel_rfl
def ykR (a0:dA) (a1:Int) (a2:List Int):Bool×dA:=(!(ya (yH a0 a1 a2)),yH a0 a1 a2)
def yg4 (a0:dA) (a1:Int) (a2:List Int):Bool:= !(ya a0)&&(yG a0.2.1 a1&&((a2.length:Int)==a0.2.1.1-1&&(a0.2.2.1.length:Int)==a0.2.1.1))
theorem yMF (a0:dA) (a1:Int) (a2:List Int) (hk:zjx ygt (a0,a1,a2,())) (hq:yg4 a0 a1 a2=true):ynR a0 a1 a2=(fun n=>some ((n.1,()),(n.2,()))) (ykR a0 a1 a2):=by
 simp only[yg4,Bool.and_eq_true,beq_iff_eq,Bool.not_eq_true']at hq;obtain⟨hd0,hs0,hl0,hm0⟩:=hq;have hg:=yj.1 (yM.1 hs0).1;have hp:=yiG hs0;have hL:=y1w (N:=a0.2.1.1) (p:=yg a0.2.1 a1) (x:=yao a2) (data:=a2) ⟨by omega,by omega⟩ hp hl0;generalize hw:(List.range a0.2.1.1.toNat).map (fun(i:Nat)=>yb5 (yg a0.2.1 a1) a0.2.1.1 (yao a2) a2 i)=W at hL;have hWl:W.length=a0.2.2.1.length:=by rw[← hw,List.length_map,List.length_range]; omega
 have hWat: ∀i:Nat,i<a0.2.2.1.length→nth W i 0=yb5 (yg a0.2.1 a1) a0.2.1.1 (yao a2) a2 i:=fun i hi=>by
  rw[← hw,zkS,zkJ (by rw[List.length_map,List.length_range]; omega)]; simp
 have h1:ylE (yHy a1 a2 a2.length a0 ((List.replicate a0.2.1.1.toNat 0).set (yg a0.2.1 a1).toNat (yao a2)))=some (.inl (yuj a1 a0 W)):=by
  have:=zkD (step:=ybh) a2.length (fun i s=>ykM a1 a2 a2.length i a0 s) (fun l (i:Nat)=>l.set ((yg a0.2.1 a1+1+i).tmod a0.2.1.1).toNat (nth a2 i 0)) (fun _ s=>s.length=a0.2.1.1.toNat) (fun s=> .inl (yuj a1 a0 s)) (fun i s hi hs=>⟨by
   have hd:=yK0 hs0 (show(0:Int)≤i by omega) (show(i:Int)≤a0.2.1.1-2 by omega);have he:yaI a0.2.1 a1 i=(yg a0.2.1 a1+1+i).tmod a0.2.1.1:=by unfold yaI; rw[hs0,zk2 (show(0:Int)≤i by omega),zk2 (show(i:Int)≤a0.2.1.1-2 by omega)]; rfl
   simp only[ybh,ykM,ykZ,zky (show(i:Int)<a2.length by omega),cond_true,wq ((i:Int)+1) (by omega) (by omega),Int.natCast_add,Int.natCast_one,Int.toNat_natCast,zkR hi,zkX,yfs,zj6.2 (show 0≤yaI a0.2.1 a1 i∧yaI a0.2.1 a1 i<s.length by omega)]
   rw[he],by rw[List.length_set]; exact hs⟩) (fun s hs=>by simp only[ybh,ykM,ykZ,zk3 (Int.le_refl _),cond_false]) ((List.replicate a0.2.1.1.toNat 0).set (yg a0.2.1 a1).toNat (yao a2)) (by rw[List.length_set,List.length_replicate]) 18446744073709551616 (by omega)
  rw[hL]at this;exact this
 have h2:ykt (yGI a1 W.length a0 W)=some (bif ya (yH a0 a1 a2)then .inr (yjT false (yH a0 a1 a2))else .inl (yjQ (yH a0 a1 a2))):=by
  have:=zkC (step:=yaV) a0.2.2.1.length (fun i s=>yjM a1 W.length i s W) (fun i s=>bif ya (ybf (yg a0.2.1 a1) a0.2.1.1 a1 a2 s i)then(.inr (ybf (yg a0.2.1 a1) a0.2.1.1 a1 a2 s i):dA ⊕ dA)else .inl (ybf (yg a0.2.1 a1) a0.2.1.1 a1 a2 s i)) (fun _ s=>s.2.2.1.length=a0.2.2.1.length∧ya s=false) id
   (fun b=>bif ya b then .inr (yjT false b)else .inl (yjQ b)) (fun i s hi hs=>by
    constructor
    ·simp only[yaV,yjM,yki,zky (show(i:Int)<W.length by omega),cond_true,wq ((i:Int)+1) (by omega) (by omega),Int.natCast_add,Int.natCast_one,Int.toNat_natCast,zkR (show i<W.length by omega),zkX,yft,yGC,hWat i hi,ybf]
     rw[ypt s i (yX a1) [yb5 (yg a0.2.1 a1) a0.2.1.1 (yao a2) a2 i] (by unfold ycS; rw[zkR (by rw[hs.1]; exact hi),hs.2]; rfl)];cases hlv:yct s i a1
     ·simp only[cond_false,hs.2]
     ·simp only[zkH,ycO,cond_true]
      cases hd:ya (ycR s i (yX a1) [yb5 (yg a0.2.1 a1) a0.2.1.1 (yao a2) a2 i])
      ·rfl
      ·simp only[hd,Bool.not_true,Bool.not_false,cond_true,yjT]
    ·intro s' h
     cases hd:ya (ybf (yg a0.2.1 a1) a0.2.1.1 a1 a2 s i)
     ·rw[hd]at h
      cases h;exact⟨(yw4 _ _ _ _ s i).trans hs.1,hd⟩
     ·rw[hd]at h; cases h) (fun s hs=>by simp only[yaV,yjM,yki,hs.2,hWl,zk3 (Int.le_refl _),cond_false,id,yjQ]) a0 ⟨rfl,hd0⟩ 18446744073709551616 (by omega)
  rw[yDf (fun a i h=>yJh _ _ _ _ i h),← List.range_eq_range']at this;exact this
 unfold ynR ykR ydG yji ycw;rw[zkM.2 (show 0≤a0.2.1.1∧a0.2.1.1*((8:Nat):Int)≤140737488355328 by omega)];simp only[cond_true];rw[zj6.2 (show 0≤yg a0.2.1 a1∧yg a0.2.1 a1<((List.replicate a0.2.1.1.toNat (0:Int)).length:Int)by rw[List.length_replicate]; omega),cond_true];refine(congrArg (fun z=>zkt z _ _) h1).trans ?_;rw[zkN];refine(congrArg (fun z=>zkt z _ _) h2).trans ?_;cases hd:ya (yH a0 a1 a2)
 ·rfl
 ·simp only[cond_true,zkO,zkX]; rfl
def ycP (a0:dA) (a1:Int) (a2:List Int):Option (zaY ykx×zak ygt):=bif yg4 a0 a1 a2 then(fun n=>some ((n.1,()),(n.2,()))) (ykR a0 a1 a2)else none
theorem yNf (a0:dA) (a1:Int) (a2:List Int) (h:yg4 a0 a1 a2=true):ycP a0 a1 a2=(fun n=>some ((n.1,()),(n.2,()))) (ykR a0 a1 a2):=by unfold ycP; rw[h]; rfl
def yxq:Con:=⟨ygt,ykx,fun x=>ycP x.1 x.2.1 x.2.2.1⟩
theorem yNb:ConOk prog 98 yxq:=(yKq).mono (fun x r hk h=>zkY h (fun hq=>yMF x.1 x.2.1 x.2.2.1 hk hq))
end
end Go.Tf
