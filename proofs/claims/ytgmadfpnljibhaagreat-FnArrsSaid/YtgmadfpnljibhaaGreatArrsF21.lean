/- Functions of the program, and what they come to. -/
import Derived.Test.YtgmadfpnljibhaaGreatArrsF20
namespace Go.Tf
noncomputable section
open Go.Proofs
set_option synthInstance.maxHeartbeats 400000
set_option synthInstance.maxSize 10000
set_option linter.unusedVariables false
set_option linter.unusedSimpArgs false
set_option maxRecDepth 100000
section
def yHN:Code:=(Tryz.f210.body).getD .skip
def yIk:Env:=zj2 TT [(105,yzT),(109,yBH),(110,yEu),(115,yu8),(121,yom),(141,yc0),(150,yz),(182,yGw),(185,ytb),(186,yGu),(199,yBG),(208,yta),(265,yrj)] []
theorem yPj:FrOk Tryz.prog ⟨yIk,160,fun _=>none⟩ yHN:=zj6 yc yd ⟨yQY,yUC,yXc,yGJ,yw6,ygu,yM,yZe,yEV,yZc,yUB,yEU,yCz,trivial⟩
def yRD:Nat→Option Seg:=fun _=>none
abbrev yj:List Par:= [.pt tU .fz,.pt tA (.pr .fz (.pr (.pr .fz .fz) (.pr (.ow (.pr (.ow .fz) (.pr (.ow (.pr .fz .fz)) (.pr .fz (.ow .fz))))) (.pr .fz (.pr .fz (.pr .fz (.pr .fz (.pr .fz (.pr (.ow (.pr .fz .fz)) (.pr .fz (.pr .fz .fz)))))))))))]
abbrev yk:List OT:= []
def yfg (a0:dU) (a1:dA):Option (ResD yk×MutD yj) :=
 bnd (ye a0 14) fun r1 =>
 let k1:Option (ResD yk×MutD yj) :=
 bnd (yaL r1.2.1 3) fun r9 =>
 bif r9.1.1 then
 bif (a1.2.2.2.1==(-1)) then
 bnd (ye r9.2.1 a1.2.1.1) fun r10 =>
 bnd (ylb a1 r10.1.1) fun r11 =>
 some ((),(r10.2.1,r11.2.1,()))
 else
 some ((),(r9.2.1,a1,()))
 else
 some ((),(r9.2.1,a1,()))
 let k2:Option (ResD yk×MutD yj) :=
 bif (inb a1.2.2.2.1 a1.2.2.1.length) then
 bif (((nth a1.2.2.1 a1.2.2.2.1 ([],[],false,[])).2).2).1 then
 bnd (yjg a1) fun r12 =>
 some ((),(r1.2.1,r12.2.1,()))
 else
 some ((),(r1.2.1,a1,()))
 else none
 let k3:Option (ResD yk×MutD yj) :=
 bif (leb 0 a1.2.2.2.1) then
 k2
 else
 some ((),(r1.2.1,a1,()))
 let k4:Option (ResD yk×MutD yj) :=
 bif (inb a1.2.2.2.1 a1.2.2.1.length) then
 bif (!((((nth a1.2.2.1 a1.2.2.2.1 ([],[],false,[])).2).2).1)) then
 bif (ltb a1.2.2.2.2.1 a1.2.1.2) then
 bnd (ylc a1) fun r13 =>
 some ((),(r1.2.1,r13.2.1,()))
 else
 some ((),(r1.2.1,a1,()))
 else
 some ((),(r1.2.1,a1,()))
 else none
 let k5:Option (ResD yk×MutD yj) :=
 bif (leb 0 a1.2.2.2.1) then
 k4
 else
 some ((),(r1.2.1,a1,()))
 let k6:Option (ResD yk×MutD yj) :=
 bnd (yaL r1.2.1 3) fun r15 =>
 bif r15.1.1 then
 bnd (ye r15.2.1 a1.2.1.1) fun r16 =>
 bif (inb r16.1.1 a1.2.2.1.length) then
 bnd (ye r16.2.1 a1.2.1.2) fun r17 =>
 let r18:=yaq r17.1.1
 let r19:=yfc ((nth a1.2.2.1 r16.1.1 ([],[],false,[])).1,((nth a1.2.2.1 r16.1.1 ([],[],false,[])).2).1,(((nth a1.2.2.1 r16.1.1 ([],[],false,[])).2).2)) r18
 bif (inb r16.1.1 a1.2.2.1.length) then
 some ((),(r17.2.1,(a1.1,a1.2.1,(a1.2.2.1.set (r16.1.1).toNat r19),a1.2.2.2),()))
 else none
 else none
 else
 some ((),(r15.2.1,a1,()))
 let k7:Option (ResD yk×MutD yj) :=
 bif (a1.2.2.2.1==(-1)) then
 k6
 else
 some ((),(r1.2.1,a1,()))
 let k8:Option (ResD yk×MutD yj) :=
 bif (r1.1.1==12) then
 let r14:=ygt a1
 some ((),(r1.2.1,r14,()))
 else
 k7
 let k9:Option (ResD yk×MutD yj) :=
 bif (r1.1.1==10) then
 k5
 else
 k8
 let k10:Option (ResD yk×MutD yj) :=
 bif (r1.1.1==11) then
 k5
 else
 k8
 let k11:Option (ResD yk×MutD yj) :=
 bif (r1.1.1==10) then
 k9
 else
 k10
 let k12:Option (ResD yk×MutD yj) :=
 bif (r1.1.1==9) then
 k3
 else
 k11
 let k13:Option (ResD yk×MutD yj) :=
 bif (r1.1.1==8) then
 k1
 else
 k12
 let k14:Option (ResD yk×MutD yj) :=
 bif (r1.1.1==7) then
 bnd (ypP a1) fun r8 =>
 some ((),(r1.2.1,r8.2.1,()))
 else
 k13
 let k15:Option (ResD yk×MutD yj) :=
 bif (r1.1.1==4) then
 bnd (ye r1.2.1 a1.2.1.2) fun r6 =>
 bnd (ycp a1 r6.1.1) fun r7 =>
 some ((),(r6.2.1,r7.2.1,()))
 else
 k14
 let k16:Option (ResD yk×MutD yj) :=
 bif (r1.1.1==5) then
 bnd (ye r1.2.1 a1.2.1.2) fun r27 =>
 bnd (ycp a1 r27.1.1) fun r28 =>
 some ((),(r27.2.1,r28.2.1,()))
 else
 k14
 let k17:Option (ResD yk×MutD yj) :=
 bif (r1.1.1==6) then
 bnd (ye r1.2.1 a1.2.1.2) fun r48 =>
 bnd (ycp a1 r48.1.1) fun r49 =>
 some ((),(r48.2.1,r49.2.1,()))
 else
 k14
 let k18:Option (ResD yk×MutD yj) :=
 bif (r1.1.1==5) then
 k16
 else
 k17
 let k19:Option (ResD yk×MutD yj) :=
 bif (r1.1.1==4) then
 k15
 else
 k18
 bif (r1.1.1==0) then
 bif (r1.1.1==0) then
 let r2:=yg a1.2.1
 bnd (ye r1.2.1 r2) fun r3 =>
 bnd (yX r3.2.1) fun r4 =>
 bnd (yeK a1 r3.1.1 r4.1.1) fun r5 =>
 some ((),(r4.2.1,r5.2.1,()))
 else
 k19
 else
 bif (r1.1.1==1) then
 bif (r1.1.1==1) then
 let r69:=yg a1.2.1
 bnd (ye r1.2.1 r69) fun r70 =>
 bnd (yX r70.2.1) fun r71 =>
 bnd (yeK a1 r70.1.1 r71.1.1) fun r72 =>
 some ((),(r71.2.1,r72.2.1,()))
 else
 k19
 else
 bif (r1.1.1==2) then
 bif (r1.1.1==2) then
 let r136:=yg a1.2.1
 bnd (ye r1.2.1 r136) fun r137 =>
 bnd (yX r137.2.1) fun r138 =>
 bnd (yeK a1 r137.1.1 r138.1.1) fun r139 =>
 some ((),(r138.2.1,r139.2.1,()))
 else
 k19
 else
 bif (r1.1.1==3) then
 let r203:=yg a1.2.1
 bnd (ye r1.2.1 r203) fun r204 =>
 bnd (yX r204.2.1) fun r205 =>
 bnd (yeK a1 r204.1.1 r205.1.1) fun r206 =>
 some ((),(r205.2.1,r206.2.1,()))
 else
 k19
theorem yYu (x:InD yj):zjx ⟨yIk,160,yRD⟩ Tryz.f210.results.toList yHN yj yk x=yfg x.1 x.2.1:=by kernel_rfl
theorem yUl:ConOk Tryz.prog 210 ⟨yj,yk,fun x=>yfg x.1 x.2.1⟩:=zj1 (yPj) Tryz.func210 (by kernel_rfl) (by kernel_rfl) Tryz.ntmps210.symm (by decide) (fun x r h=>(yYu x).trans h)
def yEA:Con:=⟨yj,yk,fun x=>yfg x.1 x.2.1⟩
theorem yXi:ConOk Tryz.prog 210 yEA:=yUl
def yxJ (a:dA) (z:Option (ResD yk×MutD yj)):Prop:= ∃ (u':dU) (a':dA),z=some ((),(u',a',()))∧yD u'∧Turned a a'
def y0W (u:dU) (a:dA):Option (ResD yk×MutD yj) :=
 bnd (ye u (yg a.2.1)) fun r3=>bnd (yX r3.2.1) fun r4=>bnd (yeK a r3.1.1 r4.1.1) fun r5=>some ((),(r4.2.1,r5.2.1,()))
def yXO (u:dU) (a:dA):Option (ResD yk×MutD yj) :=
 bnd (ye u a.2.1.2) fun r6=>bnd (ycp a r6.1.1) fun r7=>some ((),(r6.2.1,r7.2.1,()))
def y0p (u:dU) (a:dA):Option (ResD yk×MutD yj) :=
 bnd (yaL u 3) fun r9=>bif r9.1.1 then (bif (a.2.2.2.1==(-1)) then (bnd (ye r9.2.1 a.2.1.1) fun r10=>bnd (ylb a r10.1.1) fun r11=>some ((),(r10.2.1,r11.2.1,()))) else some ((),(r9.2.1,a,()))) else some ((),(r9.2.1,a,()))
def yXP (u:dU) (a:dA):Option (ResD yk×MutD yj) :=
 bif leb 0 a.2.2.2.1 then (bif inb a.2.2.2.1 a.2.2.1.length then (bif (nth a.2.2.1 a.2.2.2.1 noMem).2.2.1 then (bnd (yjg a) fun r12=>some ((),(u,r12.2.1,()))) else some ((),(u,a,()))) else none) else some ((),(u,a,()))
def y0q (u:dU) (a:dA):Option (ResD yk×MutD yj) :=
 bif leb 0 a.2.2.2.1 then (bif inb a.2.2.2.1 a.2.2.1.length then (bif !(nth a.2.2.1 a.2.2.2.1 noMem).2.2.1 then (bif ltb a.2.2.2.2.1 a.2.1.2 then (bnd (ylc a) fun r13=>some ((),(u,r13.2.1,()))) else some ((),(u,a,()))) else some ((),(u,a,()))) else none) else some ((),(u,a,()))
def yLu (u:dU) (a:dA):Option (ResD yk×MutD yj) :=
 bif (a.2.2.2.1==(-1)) then (bnd (yaL u 3) fun r15=>bif r15.1.1 then (bnd (ye r15.2.1 a.2.1.1) fun r16=>bif inb r16.1.1 a.2.2.1.length then (bnd (ye r16.2.1 a.2.1.2) fun r17 =>
 bif inb r16.1.1 a.2.2.1.length then some ((),(r17.2.1,setMem a r16.1.1 (spoil (nth a.2.2.1 r16.1.1 noMem) (dataAt r17.1.1)),())) else none) else none) else some ((),(r15.2.1,a,()))) else some ((),(u,a,()))
theorem yHo {u:dU} {a:dA} (h:coreOk a) (hk:Keep a) (hu:yD u):yxJ a (y0W u a):=by
 have hg:=yi.1 h.1
 have hd:=yxX h.2.2.1 h.1
 obtain ⟨b,u1,e1,q1,d1⟩:=yy u (yg a.2.1) hu
 obtain ⟨x,u2,e2,q2,d2⟩:=y0O u1 d1
 have hx:isW x=true:=by rw [ybX]at q2; exact q2
 have hbl:0 < yg a.2.1:=by
  rw [yGP h.1]
  exact Int.mul_pos (by omega) (by omega)
 have hb:blkOk a.2.1 b=true:=by
  have:=q1.2.1 hbl
  unfold blkOk
  rw [zkw q1.1,zkw (show b≤yg a.2.1 - 1 by omega)]; rfl
 unfold y0W
 rw [e1,zkc,e2,zkc,yZh a b x (by unfold ypR; rw [yVp.2 ⟨h,hk⟩,hb]; exact decide_eq_true (show a.2.2.2.2.2.2.2.2.1.length≤1000 by omega)),zkc]
 exact ⟨_,_,rfl,d2,.put b x hb hx⟩
theorem yHn {u:dU} {a:dA} (h:coreOk a) (hu:yD u):yxJ a (yXO u a):=by
 have hd:=yxX h.2.2.1 h.1
 obtain ⟨s,u1,e1,q1,d1⟩:=yy u a.2.1.2 hu
 unfold yXO
 rw [e1,zkc,yEX a s (decide_eq_true (show a.2.2.2.2.2.2.2.2.1.length≤1000 by omega)),zkc]
 exact ⟨_,_,rfl,d1,.flush s⟩
theorem y2i {u:dU} {a:dA} (h:coreOk a) (hu:yD u):yxJ a (bnd (ypP a) fun r8=>some ((),(u,r8.2.1,()))):=by
 have hd:=yxX h.2.2.1 h.1
 rw [yZf a (decide_eq_true (show a.2.2.2.2.2.2.2.2.1.length≤1000 by omega)),zkc]
 exact ⟨_,_,rfl,hu,.all⟩
theorem y1I {u:dU} {a:dA} (h:coreOk a) (hk:Keep a) (hu:yD u):yxJ a (y0p u a):=by
 have hg:=yi.1 h.1
 have hl:=hk.1.2
 obtain ⟨r,u1,e1,d1⟩:=y0P u 3 hu
 unfold y0p
 rw [e1,zkc]
 cases r
 ·exact ⟨_,_,rfl,d1,.same⟩
 ·cases h1:(a.2.2.2.1==(-1))
  ·exact ⟨_,_,rfl,d1,.same⟩
  ·obtain ⟨m,u2,e2,q2,d2⟩:=yy u1 a.2.1.1 d1
   have hm:inb m a.2.2.1.length=true:=zjD.2 ⟨q2.1,by have:=q2.2.1 (by omega); omega⟩
   simp only [cond_true]
   rw [e2,zkc,yUG a m hm,zkc]
   exact ⟨_,_,rfl,d2,.fail m (beq_iff_eq.1 h1) hm⟩
theorem y1e {u:dU} {a:dA} (h:coreOk a) (hk:Keep a) (hu:yD u):yxJ a (yXP u a):=by
 have hl:=hk.1.2
 have hc:=h.2.2.2.1
 unfold yXP
 cases h0:leb 0 a.2.2.2.1
 ·exact ⟨_,_,rfl,hu,.same⟩
 ·have hi:inb a.2.2.2.1 a.2.2.1.length=true:=zjD.2 ⟨zjE.1 h0,by omega⟩
  rw [hi]
  cases hf:(nth a.2.2.1 a.2.2.2.1 noMem).2.2.1
  ·exact ⟨_,_,rfl,hu,.same⟩
  ·simp only [cond_true]
   rw [yQ0 a (by unfold yjh; rw [h.1,hi]; rfl),zkc]
   exact ⟨_,_,rfl,hu,.spare hi hf⟩
theorem yXQ {u:dU} {a:dA} (h:coreOk a) (hk:Keep a) (hu:yD u):yxJ a (y0q u a):=by
 have hl:=hk.1.2
 have hc:=h.2.2.2.1
 unfold y0q
 cases h0:leb 0 a.2.2.2.1
 ·exact ⟨_,_,rfl,hu,.same⟩
 ·have h0':=zjE.1 h0
  have hi:inb a.2.2.2.1 a.2.2.1.length=true:=zjD.2 ⟨h0',by omega⟩
  rw [hi]
  cases hf:(nth a.2.2.1 a.2.2.2.1 noMem).2.2.1
  ·cases hb:ltb a.2.2.2.2.1 a.2.1.2
   ·exact ⟨_,_,rfl,hu,.same⟩
   ·simp only [cond_true,Bool.not_false]
    rw [yUH a (by unfold yle; rw [h.1,hi,zjD.2 (show 0≤a.2.2.2.1∧a.2.2.2.1 < a.2.1.1.toNat by omega)]; rfl),zkc]
    exact ⟨_,_,rfl,hu,.step hi hf (zjH.1 hb)⟩
  ·exact ⟨_,_,rfl,hu,.same⟩
theorem y1f {u:dU} {a:dA} (h:coreOk a) (hk:Keep a) (hu:yD u):yxJ a (yLu u a):=by
 have hg:=yi.1 h.1
 have hl:=hk.1.2
 unfold yLu
 cases (a.2.2.2.1==(-1))
 ·exact ⟨_,_,rfl,hu,.same⟩
 ·obtain ⟨r,u1,e1,d1⟩:=y0P u 3 hu
  simp only [cond_true]
  rw [e1,zkc]
  cases r
  ·exact ⟨_,_,rfl,d1,.same⟩
  ·obtain ⟨m,u2,e2,q2,d2⟩:=yy u1 a.2.1.1 d1
   have hm:inb m a.2.2.1.length=true:=zjD.2 ⟨q2.1,by have:=q2.2.1 (by omega); omega⟩
   obtain ⟨s,u3,e3,q3,d3⟩:=yy u2 a.2.1.2 d2
   simp only [cond_true]
   rw [e2,zkc]
   simp only [hm,cond_true]
   rw [e3,zkc]
   exact ⟨_,_,rfl,d3,.spoil m s hm q3.1 (q3.2.1 (by omega))⟩
theorem y2A (u:dU) (a:dA) (hu:yD u) (h:coreOk a) (hk:Keep a):yxJ a (yfg u a):=by
 obtain ⟨r,u1,e1,q1,d1⟩:=yy u 14 hu
 have hr:=q1.2.1 (by omega)
 have h0:=q1.1
 unfold yfg
 rw [e1,zkc]
 have hc:(r=0∨r=1∨r=2∨r=3)∨(r=4∨r=5∨r=6)∨r=7∨r=8∨r=9∨(r=10∨r=11)∨r=12∨r=13:=by omega
 rcases hc with (rfl | rfl | rfl | rfl) | (rfl | rfl | rfl) | rfl | rfl | rfl | (rfl | rfl) | rfl | rfl
 ·exact yHo h hk d1
 ·exact yHo h hk d1
 ·exact yHo h hk d1
 ·exact yHo h hk d1
 ·exact yHn h d1
 ·exact yHn h d1
 ·exact yHn h d1
 ·exact y2i h d1
 ·exact y1I h hk d1
 ·exact y1e h hk d1
 ·exact yXQ h hk d1
 ·exact yXQ h hk d1
 ·refine ⟨u1,checkA a,?_,d1,.check⟩
  rw [← yIy]; rfl
 ·have:=y1f h hk d1
  unfold yLu at this
  simp only [← yd9]at this
  exact this
end
section
def yme:Code:=(Tryz.f113.body).getD .skip
def yr5:Env:=zj2 TT [(49,yu6),(150,yz),(209,yGs),(210,yEA)] []
theorem yPe:FrOk Tryz.prog ⟨yr5,24,fun _=>none⟩ yme:=zj6 yc yd ⟨yGI,yM,yZa,yXi,trivial⟩
def yDC:Nat→Option Seg:=fun _=>none
def yb8:Shape:=⟨[(0,false,[.ptr 1000000000 0]),(4,false,[.ptr 0 0]),(5,false,[.ptr 4480 0]),(6,false,[.int .i64])],[(0,[.int .i64,.int .i64,.int .i64,.nil,.int .i64,.int .i64,.int .i64,.int .i64,.int .i64,.nil,.int .i64,.bool,.bool]),(4480,[.int .i64,.int .i64,.int .i64,.at 800000000,.int .i64,.int .i64,.int .i64,.int .i64,.int .i64,.at 800000001,.int .i64,.bool,.bool]),(1000000000,[.fz tY,.int .i64,.int .i64])],[(800000000,tM,(.pr (.ow .fz) (.pr (.ow (.pr .fz .fz)) (.pr .fz (.ow .fz))))),(800000001,tW,(.pr .fz .fz))]⟩
def yg6:Shape:=⟨[(0,false,[.ptr 1000000000 0]),(4,false,[.ptr 0 0]),(5,false,[.ptr 4480 0]),(6,false,[.int .i64])],[(0,[.int .i64,.int .i64,.int .i64,.nil,.int .i64,.int .i64,.int .i64,.int .i64,.int .i64,.nil,.int .i64,.bool,.bool]),(4480,[.int .i64,.int .i64,.int .i64,.at 800000000,.int .i64,.int .i64,.int .i64,.int .i64,.int .i64,.at 800000001,.int .i64,.bool,.bool]),(1000000000,[.fz tY,.int .i64,.int .i64])],[(800000000,tM,(.pr (.ow .fz) (.pr (.ow (.pr .fz .fz)) (.pr .fz (.ow .fz))))),(800000001,tW,(.pr .fz .fz))]⟩
def ygU:Shape:=⟨[(4,false,[.ptr 0 0]),(5,false,[.ptr 4480 0])],[(0,[.int .i64,.int .i64,.int .i64,.nil,.int .i64,.int .i64,.int .i64,.int .i64,.int .i64,.nil,.int .i64,.bool,.bool]),(4480,[.int .i64,.int .i64,.int .i64,.at 800000000,.int .i64,.int .i64,.int .i64,.int .i64,.int .i64,.at 800000001,.int .i64,.bool,.bool]),(1000000000,[.fz tY,.int .i64,.int .i64])],[(800000000,tM,(.pr (.ow .fz) (.pr (.ow (.pr .fz .fz)) (.pr .fz (.ow .fz))))),(800000001,tW,(.pr .fz .fz))]⟩
def ylC:Shape:=⟨[],[],[]⟩
abbrev yrs (v0:Int) (v1 v2:dA) (v3:dU):(yb8).X:=((((),()),((),()),((),()),(v0,()),()),((v1.1,v1.2.1.1,v1.2.1.2,(),v1.2.2.2.1,v1.2.2.2.2.1,v1.2.2.2.2.2.1,v1.2.2.2.2.2.2.1,v1.2.2.2.2.2.2.2.1,(),v1.2.2.2.2.2.2.2.2.2.1,v1.2.2.2.2.2.2.2.2.2.2.1,v1.2.2.2.2.2.2.2.2.2.2.2,()),(v2.1,v2.2.1.1,v2.2.1.2,(),v2.2.2.2.1,v2.2.2.2.2.1,v2.2.2.2.2.2.1,v2.2.2.2.2.2.2.1,v2.2.2.2.2.2.2.2.1,(),v2.2.2.2.2.2.2.2.2.2.1,v2.2.2.2.2.2.2.2.2.2.2.1,v2.2.2.2.2.2.2.2.2.2.2.2,()),(v3.1,v3.2.1,v3.2.2,()),()),(v2.2.2.1,v2.2.2.2.2.2.2.2.2.1,()))
abbrev yM1 (v0:Int) (v1 v2:dA) (v3:dU):(yg6).X:=((((),()),((),()),((),()),(v0,()),()),((v1.1,v1.2.1.1,v1.2.1.2,(),v1.2.2.2.1,v1.2.2.2.2.1,v1.2.2.2.2.2.1,v1.2.2.2.2.2.2.1,v1.2.2.2.2.2.2.2.1,(),v1.2.2.2.2.2.2.2.2.2.1,v1.2.2.2.2.2.2.2.2.2.2.1,v1.2.2.2.2.2.2.2.2.2.2.2,()),(v2.1,v2.2.1.1,v2.2.1.2,(),v2.2.2.2.1,v2.2.2.2.2.1,v2.2.2.2.2.2.1,v2.2.2.2.2.2.2.1,v2.2.2.2.2.2.2.2.1,(),v2.2.2.2.2.2.2.2.2.2.1,v2.2.2.2.2.2.2.2.2.2.2.1,v2.2.2.2.2.2.2.2.2.2.2.2,()),(v3.1,v3.2.1,v3.2.2,()),()),(v2.2.2.1,v2.2.2.2.2.2.2.2.2.1,()))
abbrev yMR (v0 v1:dA) (v2:dU):(ygU).X:=((((),()),((),()),()),((v0.1,v0.2.1.1,v0.2.1.2,(),v0.2.2.2.1,v0.2.2.2.2.1,v0.2.2.2.2.2.1,v0.2.2.2.2.2.2.1,v0.2.2.2.2.2.2.2.1,(),v0.2.2.2.2.2.2.2.2.2.1,v0.2.2.2.2.2.2.2.2.2.2.1,v0.2.2.2.2.2.2.2.2.2.2.2,()),(v1.1,v1.2.1.1,v1.2.1.2,(),v1.2.2.2.1,v1.2.2.2.2.1,v1.2.2.2.2.2.1,v1.2.2.2.2.2.2.1,v1.2.2.2.2.2.2.2.1,(),v1.2.2.2.2.2.2.2.2.2.1,v1.2.2.2.2.2.2.2.2.2.2.1,v1.2.2.2.2.2.2.2.2.2.2.2,()),(v2.1,v2.2.1,v2.2.2,()),()),(v1.2.2.1,v1.2.2.2.2.2.2.2.2.1,()))
def yrI (v0 v1 v2 v3 v4 v5 v6 v7 v8 v9:Int) (v10 v11:Bool) (v12 v13 v14 v15 v16 v17 v18 v19 v20:Int) (v21 v22:Bool) (v23:List Int) (v24 v25:Int) (v26:List dM) (v27:List dW):Option ((yb8).X ⊕ ((ygU).X ⊕ (ylC).X)) :=
 bif (ltb 0 v0) then
 bnd (yfg (v23,v24,v25) (v12,(v13,v14),v26,v15,v16,v17,v18,v19,v27,v20,v21,v22)) fun r6 =>
 some (.inl ((((),()),((),()),((),()),((IntKind.i64.wrap (v0 - 1)),()),()),((v1,v2,v3,(),v4,v5,v6,v7,v8,(),v9,v10,v11,()),(r6.2.2.1.1,r6.2.2.1.2.1.1,r6.2.2.1.2.1.2,(),r6.2.2.1.2.2.2.1,r6.2.2.1.2.2.2.2.1,r6.2.2.1.2.2.2.2.2.1,r6.2.2.1.2.2.2.2.2.2.1,r6.2.2.1.2.2.2.2.2.2.2.1,(),r6.2.2.1.2.2.2.2.2.2.2.2.2.1,r6.2.2.1.2.2.2.2.2.2.2.2.2.2.1,r6.2.2.1.2.2.2.2.2.2.2.2.2.2.2,()),(r6.2.1.1,r6.2.1.2.1,r6.2.1.2.2,()),()),(r6.2.2.1.2.2.1,r6.2.2.1.2.2.2.2.2.2.2.2.1,())))
 else
 some (.inr (.inl ((((),()),((),()),()),((v1,v2,v3,(),v4,v5,v6,v7,v8,(),v9,v10,v11,()),(v12,v13,v14,(),v15,v16,v17,v18,v19,(),v20,v21,v22,()),(v23,v24,v25,()),()),(v26,v27,()))))
def ycD (x:(yb8).X):=yrI x.1.2.2.2.1.1 x.2.1.1.1 x.2.1.1.2.1 x.2.1.1.2.2.1 x.2.1.1.2.2.2.2.1 x.2.1.1.2.2.2.2.2.1 x.2.1.1.2.2.2.2.2.2.1 x.2.1.1.2.2.2.2.2.2.2.1 x.2.1.1.2.2.2.2.2.2.2.2.1 x.2.1.1.2.2.2.2.2.2.2.2.2.2.1 x.2.1.1.2.2.2.2.2.2.2.2.2.2.2.1 x.2.1.1.2.2.2.2.2.2.2.2.2.2.2.2.1 x.2.1.2.1.1 x.2.1.2.1.2.1 x.2.1.2.1.2.2.1 x.2.1.2.1.2.2.2.2.1 x.2.1.2.1.2.2.2.2.2.1 x.2.1.2.1.2.2.2.2.2.2.1 x.2.1.2.1.2.2.2.2.2.2.2.1 x.2.1.2.1.2.2.2.2.2.2.2.2.1 x.2.1.2.1.2.2.2.2.2.2.2.2.2.2.1 x.2.1.2.1.2.2.2.2.2.2.2.2.2.2.2.1 x.2.1.2.1.2.2.2.2.2.2.2.2.2.2.2.2.1 x.2.1.2.2.1.1 x.2.1.2.2.1.2.1 x.2.1.2.2.1.2.2.1 x.2.2.1 x.2.2.2.1
def yz4 (x:(yg6).X):(yb8).X:=((((),()),((),()),((),()),(x.1.2.2.2.1.1,()),()),((x.2.1.1.1,x.2.1.1.2.1,x.2.1.1.2.2.1,(),x.2.1.1.2.2.2.2.1,x.2.1.1.2.2.2.2.2.1,x.2.1.1.2.2.2.2.2.2.1,x.2.1.1.2.2.2.2.2.2.2.1,x.2.1.1.2.2.2.2.2.2.2.2.1,(),x.2.1.1.2.2.2.2.2.2.2.2.2.2.1,x.2.1.1.2.2.2.2.2.2.2.2.2.2.2.1,x.2.1.1.2.2.2.2.2.2.2.2.2.2.2.2.1,()),(x.2.1.2.1.1,x.2.1.2.1.2.1,x.2.1.2.1.2.2.1,(),x.2.1.2.1.2.2.2.2.1,x.2.1.2.1.2.2.2.2.2.1,x.2.1.2.1.2.2.2.2.2.2.1,x.2.1.2.1.2.2.2.2.2.2.2.1,x.2.1.2.1.2.2.2.2.2.2.2.2.1,(),x.2.1.2.1.2.2.2.2.2.2.2.2.2.2.1,x.2.1.2.1.2.2.2.2.2.2.2.2.2.2.2.1,x.2.1.2.1.2.2.2.2.2.2.2.2.2.2.2.2.1,()),(x.2.1.2.2.1.1,x.2.1.2.2.1.2.1,x.2.1.2.2.1.2.2.1,()),()),(x.2.2.1,x.2.2.2.1,()))
def yBt:Code:=(zdD yme 64 116).getD .skip
theorem yOn:zdD yme 64 29=some (.block 0 (.loop yBt)):=by kernel_rfl
theorem yRb (x:(yb8).X):zg0 ⟨yr5,24,yDC⟩ 0 yBt 116 yb8 ygU ylC x=ycD x:=by kernel_rfl
def yAg (x:(yg6).X):Nat:=18446744073709551616
def ys2 (x:(yg6).X):Option ((ygU).X ⊕ (ylC).X):=zz ycD (yAg x) (yz4 x)
def yAy:Seg:=⟨yg6,ygU,ylC,ys2⟩
def yDD:Nat→Option Seg:=fun q=>bif Nat.beq q 29 then some yAy else yDC q
theorem yPf:FrOk Tryz.prog ⟨yr5,24,yDD⟩ yme:=(yPe).loop (sg:=yAy) yb8 yz4 (by decide) yOn ycD yAg (by decide) (fun _=>rfl) (fun x r _ h=>h) yRb
abbrev ymz:List Par:= [.pt tU .fz,.rd tI]
abbrev ysC:List OT:= [⟨false,tA,(.pr .fz (.pr (.pr .fz .fz) (.pr (.ow (.pr (.ow .fz) (.pr (.ow (.pr .fz .fz)) (.pr .fz (.ow .fz))))) (.pr .fz (.pr .fz (.pr .fz (.pr .fz (.pr .fz (.pr (.ow (.pr .fz .fz)) (.pr .fz (.pr .fz .fz)))))))))))⟩]
def yda (a0:dU) (a1:Int):Option (ResD ysC×MutD ymz) :=
 bnd (ye a0 2) fun r1 =>
 bnd (ygz r1.2.1) fun r2 =>
 let r3:=yfs (IntKind.i64.wrap (1+r1.1.1)) r2.1.1
 bnd (ye r2.2.1 (IntKind.i64.wrap (a1+1))) fun r4 =>
 zkh (ys2 ((((),()),((),()),((),()),(r4.1.1,()),()),((0,0,0,(),0,0,0,0,0,(),0,false,false,()),(r3.1,r3.2.1.1,r3.2.1.2,(),r3.2.2.2.1,r3.2.2.2.2.1,r3.2.2.2.2.2.1,r3.2.2.2.2.2.2.1,r3.2.2.2.2.2.2.2.1,(),r3.2.2.2.2.2.2.2.2.2.1,r3.2.2.2.2.2.2.2.2.2.2.1,r3.2.2.2.2.2.2.2.2.2.2.2,()),(r4.2.1.1,r4.2.1.2.1,r4.2.1.2.2,()),()),(r3.2.2.1,r3.2.2.2.2.2.2.2.2.1,()))) (fun y6 =>
 some (((y6.2.1.2.1.1,(y6.2.1.2.1.2.1,y6.2.1.2.1.2.2.1),y6.2.2.1,y6.2.1.2.1.2.2.2.2.1,y6.2.1.2.1.2.2.2.2.2.1,y6.2.1.2.1.2.2.2.2.2.2.1,y6.2.1.2.1.2.2.2.2.2.2.2.1,y6.2.1.2.1.2.2.2.2.2.2.2.2.1,y6.2.2.2.1,y6.2.1.2.1.2.2.2.2.2.2.2.2.2.2.1,y6.2.1.2.1.2.2.2.2.2.2.2.2.2.2.2.1,y6.2.1.2.1.2.2.2.2.2.2.2.2.2.2.2.2.1),()),((y6.2.1.2.2.1.1,y6.2.1.2.2.1.2.1,y6.2.1.2.2.1.2.2.1),()))) (fun y6 =>
 none)
theorem yYr (x:InD ymz):zjx ⟨yr5,24,yDD⟩ Tryz.f113.results.toList yme ymz ysC x=yda x.1 x.2.1:=by kernel_rfl
theorem yUi:ConOk Tryz.prog 113 ⟨ymz,ysC,fun x=>yda x.1 x.2.1⟩:=zj1 (yPf) Tryz.func113 (by kernel_rfl) (by kernel_rfl) Tryz.ntmps113.symm (by decide) (fun x r h=>(yYr x).trans h)
def yEy:Con:=⟨ymz,ysC,fun x=>yda x.1 x.2.1⟩
theorem yXg:ConOk Tryz.prog 113 yEy:=yUi
theorem yXE {P:Int→dA→Prop} {K:Int} (hP: ∀ k a,P k a→coreOk a∧Keep a) (hT: ∀ k a b,P k a→Turned a b→k+16≤K→P (k+16) b): ∀ (n:Nat) (k:Int) (a:dA) (u:dU) (fuel:Nat),n < fuel→n≤1000→yD u→P k a→k+16 * n≤K →
  ∃ (a':dA) (u':dU),zz ycD fuel (yrs n yZ a u)=some (.inl (yMR yZ a' u'))∧yD u'∧P (k+16 * n) a'
 | 0,k,a,u,fuel+1,_,_,hu,h,_=>⟨a,u,by simp only [zz,ycD,yrs,yrI]; rfl,hu,by rw [show k+16 * ((0:Nat):Int)=k by omega]; exact h⟩
 | n+1,k,a,u,fuel+1,hf,hn,hu,h,hk=>by
  obtain ⟨hc,hkp⟩:=hP k a h
  obtain ⟨u1,a1,e1,d1,h1⟩:=y2A u a hu hc hkp
  obtain ⟨a',u',e2,d2,h2⟩:=yXE hP hT n (k+16) a1 u1 fuel (by omega) (by omega) d1 (hT k a a1 h h1 (by omega)) (by omega)
  refine ⟨a',u',?_,d2,by rw [show k+16 * ((n+1:Nat):Int)=k+16+16 * (n:Int) by omega]; exact h2⟩
  rw [← e2,zz]
  simp only [ycD,yrs,yrI,zj4 (show (0:Int) < ((n+1:Nat):Int) by omega),cond_true,zkr,e1,zkc,show ((n+1:Nat):Int) - 1=(n:Int) by omega,wr (show -9223372036854775808≤(n:Int) by omega) (by omega)]
theorem y01 {P:Int→dA→Prop} {K:Int} (hP: ∀ k a,P k a→coreOk a∧Keep a) (hT: ∀ k a b,P k a→Turned a b→k+16≤K→P (k+16) b) (h0P: ∀ id g,yb g=true→1≤id→id≤60000→P 0 (yw id g))
  (u:dU) (most:Int) (h:yD u) (h0:0≤most) (h1:most≤1000) (hm:16 * most≤K): ∃ (a:dA) (u':dU) (k:Int),yda u most=some ((a,()),(u',()))∧P k a∧k≤16 * most∧yD u':=by
 obtain ⟨r1,u1,e1,q1,d1⟩:=yy u 2 h
 obtain ⟨g,u2,e2,q2,d2⟩:=y11 u1 d1
 obtain ⟨r3,u3,e3,q3,d3⟩:=yy u2 (most+1) d2
 have:=q1.1; have:=q1.2.1 (by omega); have:=q3.1; have:=q3.2.1 (by omega)
 have hn:=h0P (1+r1) g q2 (by omega) (by omega)
 obtain ⟨a',u',e4,d4,h4⟩:=yXE hP hT r3.toNat 0 (yw (1+r1) g) u3 18446744073709551616 (by omega) (by omega) d3 hn (by omega)
 rw [show ((r3.toNat:Nat):Int)=r3 by omega]at e4
 unfold yda
 simp only [e1,e2,zkc,wr (show -9223372036854775808≤most+1 by omega) (by omega),e3,wr (show -9223372036854775808≤1+r1 by omega) (by omega),yfs]
 refine ⟨a',u',_,?_,h4,by omega,d4⟩
 exact (congrArg (fun z=>zkh z _ _) (show ys2 (yM1 r3 yZ (yw (1+r1) g) u3)=_ from e4)).trans rfl
theorem y1r (u:dU) (most:Int) (h:yD u) (h0:0≤most) (h1:most≤1000): ∃ (a:dA) (u':dU),yda u most=some ((a,()),(u',()))∧Wk 16000 a∧yD u':=by
 obtain ⟨a,u',k,e,q,hk,d⟩:=y01 (P:=fun k a=>Wk k a∧k≤16000) (K:=16000) (fun k a h=>⟨h.1.1,h.1.2.1⟩) (fun k a b h ht hk=>⟨ydw (y1N h.1 ht (by omega)) (by omega),by omega⟩) (fun id g h1 h2 h3=>⟨yU4 h1 h2 h3,by omega⟩) u most h h0 h1 (by omega)
 exact ⟨a,u',e,ydw q.1 (by omega),d⟩
end
section
def yoV:Code:=(Tryz.f213.body).getD .skip
def yuc:Env:=zj2 TT [(115,yu8),(150,yz)] []
theorem ySW:FrOk Tryz.prog ⟨yuc,18,fun _=>none⟩ yoV:=zj6 yc yd ⟨yGJ,yM,trivial⟩
def yFN:Nat→Option Seg:=fun _=>none
def ycU:Shape:=⟨[(0,false,[.ptr 1000000000 0]),(3,false,[.at 800000000]),(4,false,[.int .i64])],[(1000000000,[.fz tY,.int .i64,.int .i64])],[(800000000,tI,.fz)]⟩
def yiB:Shape:=⟨[(0,false,[.ptr 1000000000 0]),(3,false,[.at 800000000]),(4,false,[.int .i64])],[(1000000000,[.fz tY,.int .i64,.int .i64])],[(800000000,tI,.fz)]⟩
def yil:Shape:=⟨[(3,false,[.at 800000000])],[(1000000000,[.fz tY,.int .i64,.int .i64])],[(800000000,tI,.fz)]⟩
def yoc:Shape:=⟨[],[],[]⟩
abbrev ytn (v0:Int) (v1:dU) (v2:List Int):(ycU).X:=((((),()),((),()),(v0,()),()),((v1.1,v1.2.1,v1.2.2,()),()),(v2,()))
abbrev yPK (v0:Int) (v1:dU) (v2:List Int):(yiB).X:=((((),()),((),()),(v0,()),()),((v1.1,v1.2.1,v1.2.2,()),()),(v2,()))
abbrev yPy (v0:dU) (v1:List Int):(yil).X:=((((),()),()),((v0.1,v0.2.1,v0.2.2,()),()),(v1,()))
def ytL (v0:Int) (v1:List Int) (v2 v3:Int) (v4:List Int):Option ((ycU).X ⊕ ((yil).X ⊕ (yoc).X)) :=
 bif (ltb 0 v0) then
 bnd (yX (v1,v2,v3)) fun r3 =>
 bif (zjR v4.length ([r3.1.1]:List Int).length 8) then
 some (.inl ((((),()),((),()),((IntKind.i64.wrap (v0 - 1)),()),()),((r3.2.1.1,r3.2.1.2.1,r3.2.1.2.2,()),()),((v4++([r3.1.1]:List Int)),())))
 else none
 else
 some (.inr (.inl ((((),()),()),((v1,v2,v3,()),()),(v4,()))))
def ydq (x:(ycU).X):=ytL x.1.2.2.1.1 x.2.1.1.1 x.2.1.1.2.1 x.2.1.1.2.2.1 x.2.2.1
def yBV (x:(yiB).X):(ycU).X:=((((),()),((),()),(x.1.2.2.1.1,()),()),((x.2.1.1.1,x.2.1.1.2.1,x.2.1.1.2.2.1,()),()),(x.2.2.1,()))
def yEe:Code:=(zdD yoV 64 116).getD .skip
theorem yRR:zdD yoV 64 29=some (.block 0 (.loop yEe)):=by kernel_rfl
theorem yUV (x:(ycU).X):zg0 ⟨yuc,18,yFN⟩ 0 yEe 116 ycU yil yoc x=ydq x:=by kernel_rfl
def yCe (x:(yiB).X):Nat:=18446744073709551616
def yus (x:(yiB).X):Option ((yil).X ⊕ (yoc).X):=zz ydq (yCe x) (yBV x)
def yCT:Seg:=⟨yiB,yil,yoc,yus⟩
def yFO:Nat→Option Seg:=fun q=>bif Nat.beq q 29 then some yCT else yFN q
theorem ySX:FrOk Tryz.prog ⟨yuc,18,yFO⟩ yoV:=(ySW).loop (sg:=yCT) ycU yBV (by decide) yRR ydq yCe (by decide) (fun _=>rfl) (fun x r _ h=>h) yUV
abbrev ypk:List Par:= [.pt tU .fz]
abbrev yuR:List OT:= [⟨false,tL,(.ow .fz)⟩]
def yct (a0:dU):Option (ResD yuR×MutD ypk) :=
 bnd (ye a0 5) fun r1 =>
 zkh (yus ((((),()),((),()),(r1.1.1,()),()),((r1.2.1.1,r1.2.1.2.1,r1.2.1.2.2,()),()),(([]:List Int),()))) (fun y3 =>
 some ((y3.2.2.1,()),((y3.2.1.1.1,y3.2.1.1.2.1,y3.2.1.1.2.2.1),()))) (fun y3 =>
 none)
theorem yZM (x:InD ypk):zjx ⟨yuc,18,yFO⟩ Tryz.f213.results.toList yoV ypk yuR x=yct x.1:=by kernel_rfl
theorem yWP:ConOk Tryz.prog 213 ⟨ypk,yuR,fun x=>yct x.1⟩:=zj1 (ySX) Tryz.func213 (by kernel_rfl) (by kernel_rfl) Tryz.ntmps213.symm (by decide) (fun x r h=>(yZM x).trans h)
def yqz:Con:=⟨ypk,yuR,fun x=>yct x.1⟩
theorem yyW:ConOk Tryz.prog 213 yqz:=yWP
theorem yXA: ∀ (n:Nat) (u:dU) (l:List Int) (fuel:Nat),n < fuel→yD u→n+l.length≤1000 →
  ∃ (u':dU) (l':List Int),zz ydq fuel (ytn n u l)=some (.inl (yPy u' l'))∧yD u'∧l'.length=n+l.length
 | 0,u,l,fuel+1,_,hu,_=>⟨u,l,by simp only [zz,ydq,ytn,ytL]; rfl,hu,by omega⟩
 | n+1,u,l,fuel+1,hf,hu,hl=>by
  obtain ⟨x,u1,e1,_,d1⟩:=y0O u hu
  obtain ⟨u',l',e2,d2,h2⟩:=yXA n u1 (l++ [x]) fuel (by omega) d1 (by rw [List.length_append]; simp only [List.length_cons,List.length_nil]; omega)
  refine ⟨u',l',?_,d2,by rw [h2,List.length_append]; simp only [List.length_cons,List.length_nil]; omega⟩
  rw [← e2,zz]
  simp only [ydq,ytn,ytL,zj4 (show (0:Int) < ((n+1:Nat):Int) by omega),cond_true,zkr,e1,zkc,show ((n+1:Nat):Int) - 1=(n:Int) by omega,wr (show -9223372036854775808≤(n:Int) by omega) (by omega),
   zka.2 (show (l.length+ [x].length) * 8≤140737488355328 by simp only [List.length_cons,List.length_nil]; omega)]
theorem yOt (u:dU) (h:yD u): ∃ (l:List Int) (u':dU),yct u=some ((l,()),(u',()))∧l.length≤4∧yD u':=by
 obtain ⟨r1,u1,e1,q1,d1⟩:=yy u 5 h
 have:=q1.1; have:=q1.2.1 (by omega)
 obtain ⟨u',l',e2,d2,h2⟩:=yXA r1.toNat u1 [] 18446744073709551616 (by omega) d1 (by simp only [List.length_nil]; omega)
 rw [show ((r1.toNat:Nat):Int)=r1 by omega]at e2
 unfold yct
 simp only [e1,zkc]
 refine ⟨l',u',?_,by rw [h2]; simp only [List.length_nil]; omega,d2⟩
 exact (congrArg (fun z=>zkh z _ _) (show yus (yPK r1 u1 [])=_ from e2)).trans rfl
end
section
def yJv:Code:=(Tryz.f212.body).getD .skip
def yJO:Env:=zj2 TT [(124,ycn),(150,yz),(213,yqz)] []
theorem ySS:FrOk Tryz.prog ⟨yJO,23,fun _=>none⟩ yJv:=zj6 yc yd ⟨yfu,yM,yyW,trivial⟩
def yVd:Nat→Option Seg:=fun _=>none
abbrev ypi:List Par:= [.pt tU .fz]
abbrev yuO:List OT:= [⟨false,tL,(.ow .fz)⟩]
def ycs (a0:dU):Option (ResD yuO×MutD ypi) :=
 bnd (yct a0) fun r1 =>
 bnd (ye r1.2.1 10) fun r2 =>
 bif (r2.1.1==0) then
 bnd (yp r2.2.1 ([(-1),65536]:List Int)) fun r3 =>
 bif (zjR r1.1.1.length ([r3.1.1]:List Int).length 8) then
 some (((r1.1.1++([r3.1.1]:List Int)),()),(r3.2.1,()))
 else none
 else
 bif (r2.1.1==1) then
 bnd (ye r2.2.1 2) fun r4 =>
 bif (zjY (IntKind.i64.wrap (12+r4.1.1)) 8) then
 some (((List.replicate ((IntKind.i64.wrap (12+r4.1.1))).toNat (0:Int)),()),(r4.2.1,()))
 else none
 else
 some ((r1.1.1,()),(r2.2.1,()))
theorem yZJ (x:InD ypi):zjx ⟨yJO,23,yVd⟩ Tryz.f212.results.toList yJv ypi yuO x=ycs x.1:=by kernel_rfl
theorem yWM:ConOk Tryz.prog 212 ⟨ypi,yuO,fun x=>ycs x.1⟩:=zj1 (ySS) Tryz.func212 (by kernel_rfl) (by kernel_rfl) Tryz.ntmps212.symm (by decide) (fun x r h=>(yZJ x).trans h)
def ywZ:Con:=⟨ypi,yuO,fun x=>ycs x.1⟩
theorem yIu:ConOk Tryz.prog 212 ywZ:=yWM
theorem yOs (u:dU) (h:yD u): ∃ (l:List Int) (u':dU),ycs u=some ((l,()),(u',()))∧l.length≤14∧yD u':=by
 unfold ycs
 obtain ⟨l,u1,e1,q1,d1⟩:=yOt u h
 obtain ⟨r,u2,e2,q2,d2⟩:=yy u1 10 d1
 simp only [e1,e2,zkc]
 cases (r==0)
 ·cases (r==1)
  ·exact ⟨_,_,rfl,by omega,d2⟩
  ·obtain ⟨r3,u3,e3,q3,d3⟩:=yy u2 2 d2
   have:=q3.1; have:=q3.2.1 (by omega)
   have hm:zjY (IntKind.i64.wrap (12+r3)) 8=true:=by rw [wr (by omega) (by omega),zkg]; omega
   simp only [cond_true,cond_false,e3,zkc,hm]
   exact ⟨_,_,rfl,by simp only [List.length_replicate]; rw [wr (by omega) (by omega)]; omega,d3⟩
 ·obtain ⟨r3,u3,e3,q3,d3⟩:=yi3 u2 [(-1),65536] d2 (by simp)
  simp only [cond_true,e3,zkc]
  rw [zka.2 (show (l.length+ [r3].length) * 8≤140737488355328 by simp only [List.length_cons,List.length_nil]; omega)]
  exact ⟨_,_,rfl,by simp only [List.length_append,List.length_cons,List.length_nil]; omega,d3⟩
end
section
def ymc:Code:=(Tryz.f266.body).getD .skip
def yr3:Env:=zj2 TT [(138,yoo),(150,yz),(213,yqz),(264,yrk),(265,yrj),(286,yrg)] []
theorem yPa:FrOk Tryz.prog ⟨yr3,43,fun _=>none⟩ ymc:=zj6 yc yd ⟨yw8,yM,yyW,yCA,yCz,yCw,trivial⟩
def yDy:Nat→Option Seg:=fun _=>none
def yb6:Shape:=⟨[(0,false,[.ptr 1000000000 0]),(2,false,[.ptr 0 0]),(3,false,[.ptr 4352 0]),(4,false,[.int .i64])],[(0,[.nil,.nil,.bool,.nil]),(4352,[.at 800000000,.at 800000001,.bool,.at 800000002]),(1000000000,[.fz tY,.int .i64,.int .i64])],[(800000000,tL,.fz),(800000001,tW,(.pr .fz .fz)),(800000002,tI,.fz)]⟩
def yg4:Shape:=⟨[(0,false,[.ptr 1000000000 0]),(2,false,[.ptr 0 0]),(3,false,[.ptr 4352 0]),(4,false,[.int .i64])],[(0,[.nil,.nil,.bool,.nil]),(4352,[.at 800000000,.at 800000001,.bool,.at 800000002]),(1000000000,[.fz tY,.int .i64,.int .i64])],[(800000000,tL,.fz),(800000001,tW,(.pr .fz .fz)),(800000002,tI,.fz)]⟩
def ygS:Shape:=⟨[(2,false,[.ptr 0 0]),(3,false,[.ptr 4352 0])],[(0,[.nil,.nil,.bool,.nil]),(4352,[.at 800000000,.at 800000001,.bool,.at 800000002]),(1000000000,[.fz tY,.int .i64,.int .i64])],[(800000000,tL,.fz),(800000001,tW,(.pr .fz .fz)),(800000002,tI,.fz)]⟩
def ylA:Shape:=⟨[],[],[]⟩
abbrev yf0 (v0:Int) (v1 v2:dM) (v3:dU):(yb6).X:=((((),()),((),()),((),()),(v0,()),()),(((),(),v1.2.2.1,(),()),((),(),v2.2.2.1,(),()),(v3.1,v3.2.1,v3.2.2,()),()),(v2.1,v2.2.1,v2.2.2.2,()))
abbrev yM0 (v0:Int) (v1 v2:dM) (v3:dU):(yg4).X:=((((),()),((),()),((),()),(v0,()),()),(((),(),v1.2.2.1,(),()),((),(),v2.2.2.1,(),()),(v3.1,v3.2.1,v3.2.2,()),()),(v2.1,v2.2.1,v2.2.2.2,()))
abbrev yMQ (v0 v1:dM) (v2:dU):(ygS).X:=((((),()),((),()),()),(((),(),v0.2.2.1,(),()),((),(),v1.2.2.1,(),()),(v2.1,v2.2.1,v2.2.2,()),()),(v1.1,v1.2.1,v1.2.2.2,()))
def yrH (v0:Int) (v1 v2:Bool) (v3:List Int) (v4 v5:Int) (v6:List (List Int)) (v7:List dW) (v8:List Int):Option ((yb6).X ⊕ ((ygS).X ⊕ (ylA).X)) :=
 bif (ltb 0 v0) then
 bnd (ye (v3,v4,v5) 6) fun r11 =>
 bif (r11.1.1==0) then
 let r12:=yc5 (v6,v7,v2,v8)
 some (.inl ((((),()),((),()),((),()),((IntKind.i64.wrap (v0 - 1)),()),()),(((),(),v1,(),()),((),(),r12.2.2.1,(),()),(r11.2.1.1,r11.2.1.2.1,r11.2.1.2.2,()),()),(r12.1,r12.2.1,r12.2.2.2,())))
 else
 bif (r11.1.1==1) then
 bnd (ye r11.2.1 (v6.length:Int)) fun r13 =>
 let r14:=yfc (v6,v7,v2,v8) r13.1.1
 some (.inl ((((),()),((),()),((),()),((IntKind.i64.wrap (v0 - 1)),()),()),(((),(),v1,(),()),((),(),r14.2.2.1,(),()),(r13.2.1.1,r13.2.1.2.1,r13.2.1.2.2,()),()),(r14.1,r14.2.1,r14.2.2.2,())))
 else
 bnd (ye r11.2.1 (v6.length:Int)) fun r15 =>
 bnd (yct r15.2.1) fun r16 =>
 let r17:=yc7 (v6,v7,v2,v8) r15.1.1 r16.1.1
 some (.inl ((((),()),((),()),((),()),((IntKind.i64.wrap (v0 - 1)),()),()),(((),(),v1,(),()),((),(),r17.1.2.2.1,(),()),(r16.2.1.1,r16.2.1.2.1,r16.2.1.2.2,()),()),(r17.1.1,r17.1.2.1,r17.1.2.2.2,())))
 else
 some (.inr (.inl ((((),()),((),()),()),(((),(),v1,(),()),((),(),v2,(),()),(v3,v4,v5,()),()),(v6,v7,v8,()))))
def ya7 (x:(yb6).X):=yrH x.1.2.2.2.1.1 x.2.1.1.2.2.1 x.2.1.2.1.2.2.1 x.2.1.2.2.1.1 x.2.1.2.2.1.2.1 x.2.1.2.2.1.2.2.1 x.2.2.1 x.2.2.2.1 x.2.2.2.2.1
def yz2 (x:(yg4).X):(yb6).X:=((((),()),((),()),((),()),(x.1.2.2.2.1.1,()),()),(((),(),x.2.1.1.2.2.1,(),()),((),(),x.2.1.2.1.2.2.1,(),()),(x.2.1.2.2.1.1,x.2.1.2.2.1.2.1,x.2.1.2.2.1.2.2.1,()),()),(x.2.2.1,x.2.2.2.1,x.2.2.2.2.1,()))
def yBr:Code:=(zdD ymc 64 116).getD .skip
theorem yOl:zdD ymc 64 29=some (.block 0 (.loop yBr)):=by kernel_rfl
theorem yQ9 (x:(yb6).X):zg0 ⟨yr3,43,yDy⟩ 0 yBr 116 yb6 ygS ylA x=ya7 x:=by kernel_rfl
def yAe (x:(yg4).X):Nat:=18446744073709551616
def ys1 (x:(yg4).X):Option ((ygS).X ⊕ (ylA).X):=zz ya7 (yAe x) (yz2 x)
def yAw:Seg:=⟨yg4,ygS,ylA,ys1⟩
def yDz:Nat→Option Seg:=fun q=>bif Nat.beq q 29 then some yAw else yDy q
theorem yPb:FrOk Tryz.prog ⟨yr3,43,yDz⟩ ymc:=(yPa).loop (sg:=yAw) yb6 yz2 (by decide) yOl ya7 yAe (by decide) (fun _=>rfl) (fun x r _ h=>h) yQ9
abbrev ymy:List Par:= [.pt tU .fz]
abbrev ysB:List OT:= [⟨false,tM,(.pr (.ow .fz) (.pr (.ow (.pr .fz .fz)) (.pr .fz (.ow .fz))))⟩]
def yff (a0:dU):Option (ResD ysB×MutD ymy) :=
 bnd (ye a0 5) fun r1 =>
 let r2:=ybc (IntKind.i64.wrap (3+r1.1.1))
 bnd (ye r1.2.1 8) fun r3 =>
 zkh (ys1 ((((),()),((),()),((),()),(r3.1.1,()),()),(((),(),false,(),()),((),(),r2.2.2.1,(),()),(r3.2.1.1,r3.2.1.2.1,r3.2.1.2.2,()),()),(r2.1,r2.2.1,r2.2.2.2,()))) (fun y17 =>
 some (((y17.2.2.1,y17.2.2.2.1,y17.2.1.2.1.2.2.1,y17.2.2.2.2.1),()),((y17.2.1.2.2.1.1,y17.2.1.2.2.1.2.1,y17.2.1.2.2.1.2.2.1),()))) (fun y17 =>
 none)
theorem yYp (x:InD ymy):zjx ⟨yr3,43,yDz⟩ Tryz.f266.results.toList ymc ymy ysB x=yff x.1:=by kernel_rfl
theorem yUg:ConOk Tryz.prog 266 ⟨ymy,ysB,fun x=>yff x.1⟩:=zj1 (yPb) Tryz.func266 (by kernel_rfl) (by kernel_rfl) Tryz.ntmps266.symm (by decide) (fun x r h=>(yYp x).trans h)
def yEw:Con:=⟨ymy,ysB,fun x=>yff x.1⟩
theorem yXe:ConOk Tryz.prog 266 yEw:=yUg
theorem yXC: ∀ (n:Nat) (m:dM) (u:dU) (fuel:Nat),n < fuel→n≤1000→yD u→yq m=true →
  ∃ (m':dM) (u':dU),zz ya7 fuel (yf0 n noMem m u)=some (.inl (yMQ noMem m' u'))∧yD u'∧yq m'=true
 | 0,m,u,fuel+1,_,_,hu,h=>⟨m,u,by simp only [zz,ya7,yf0,yrH]; rfl,hu,h⟩
 | n+1,m,u,fuel+1,hf,hn,hu,h=>by
  have hlen:=(ya9 h).2.2.2
  have key: ∃ (m1:dM) (u1:dU),ya7 (yf0 ((n+1:Nat):Int) noMem m u)=some (.inl (yf0 (n:Int) noMem m1 u1))∧yD u1∧yq m1=true:=by
   obtain ⟨r,u1,e1,_,d1⟩:=yy u 6 hu
   simp only [ya7,yf0,yrH,zj4 (show (0:Int) < ((n+1:Nat):Int) by omega),cond_true,zkr,e1,zkc,show ((n+1:Nat):Int) - 1=(n:Int) by omega,wr (show -9223372036854775808≤(n:Int) by omega) (by omega)]
   cases (r==0)
   ·obtain ⟨i,u2,e2,q2,d2⟩:=yy u1 (m.1.length:Int) d1
    cases (r==1)
    ·obtain ⟨s,u3,e3,_,d3⟩:=yOt u2 d2
     simp only [cond_false,e2,zkc,e3,yc7]
     exact ⟨(ya8 m i s).1,u3,rfl,d3,y0v i s h⟩
    ·simp only [cond_false,cond_true,e2,zkc,yfc]
     exact ⟨spoil m i,u2,rfl,d2,y0n i h⟩
   ·simp only [cond_true,yc5]
    exact ⟨ybx m,u1,rfl,d1,yZY h⟩
  obtain ⟨m1,u1,e1,d1,h1⟩:=key
  obtain ⟨m',u',e2,d2,h2⟩:=yXC n m1 u1 fuel (by omega) (by omega) d1 h1
  exact ⟨m',u',by rw [← e2,zz,e1],d2,h2⟩
theorem y1p (u:dU) (h:yD u): ∃ (m:dM) (u':dU),yff u=some ((m,()),(u',()))∧yq m=true∧yD u':=by
 obtain ⟨r1,u1,e1,q1,d1⟩:=yy u 5 h
 obtain ⟨r3,u3,e3,q3,d3⟩:=yy u1 8 d1
 have:=q1.1; have:=q1.2.1 (by omega); have:=q3.1; have:=q3.2.1 (by omega)
 obtain ⟨m',u',e4,d4,h4⟩:=yXC r3.toNat (yO (3+r1)) u3 18446744073709551616 (by omega) (by omega) d3 (yKN (by omega) (by omega))
 rw [show ((r3.toNat:Nat):Int)=r3 by omega]at e4
 unfold yff
 simp only [e1,e3,zkc,wr (show -9223372036854775808≤3+r1 by omega) (by omega),ybc]
 refine ⟨m',u',?_,h4,d4⟩
 exact (congrArg (fun z=>zkh z _ _) (show ys1 (yM0 r3 noMem (yO (3+r1)) u3)=_ from e4)).trans rfl
end
section
def yoW:Code:=(Tryz.f211.body).getD .skip
def yud:Env:=zj2 TT [(124,ycn),(150,yz),(212,ywZ),(232,ys8),(266,yEw)] [(25088,(.pr .fz .fz)),(53440,(.pr .fz .fz)),(61440,.fz)]
theorem ySY:FrOk Tryz.prog ⟨yud,62,fun _=>none⟩ yoW:=zj6 yc yd ⟨yfu,yM,yIu,yES,yXe,trivial⟩
def yFP:Nat→Option Seg:=fun _=>none
def ya4:Shape:=⟨[(0,false,[.ptr 1000000000 0]),(2,false,[.ptr 0 0]),(3,false,[.ptr 4224 0])],[(0,[.nil,.nil,.bool,.nil]),(4224,[.at 800000000,.at 800000001,.bool,.at 800000002]),(1000000000,[.fz tY,.int .i64,.int .i64])],[(800000000,tL,.fz),(800000001,tW,(.pr .fz .fz)),(800000002,tI,.fz)]⟩
def yeB:Shape:=⟨[(0,false,[.ptr 1000000000 0]),(2,false,[.ptr 0 0]),(3,false,[.ptr 4224 0])],[(0,[.nil,.nil,.bool,.nil]),(4224,[.at 800000000,.at 800000001,.bool,.at 800000002]),(1000000000,[.fz tY,.int .i64,.int .i64])],[(800000000,tL,.fz),(800000001,tW,(.pr .fz .fz)),(800000002,tI,.fz)]⟩
def yeu:Shape:=⟨[(2,false,[.ptr 0 0]),(3,false,[.ptr 4224 0])],[(0,[.nil,.nil,.bool,.nil]),(4224,[.at 800000000,.at 800000001,.bool,.at 800000002]),(1000000000,[.fz tY,.int .i64,.int .i64])],[(800000000,tL,.fz),(800000001,tW,(.pr .fz .fz)),(800000002,tI,.fz)]⟩
def yiZ:Shape:=⟨[],[],[]⟩
abbrev yhy (v0 v1:dM) (v2:dU):(ya4).X:=((((),()),((),()),((),()),()),(((),(),v0.2.2.1,(),()),((),(),v1.2.2.1,(),()),(v2.1,v2.2.1,v2.2.2,()),()),(v1.1,v1.2.1,v1.2.2.2,()))
abbrev yI3 (v0 v1:dM) (v2:dU):(yeB).X:=((((),()),((),()),((),()),()),(((),(),v0.2.2.1,(),()),((),(),v1.2.2.1,(),()),(v2.1,v2.2.1,v2.2.2,()),()),(v1.1,v1.2.1,v1.2.2.2,()))
abbrev yIW (v0 v1:dM) (v2:dU):(yeu).X:=((((),()),((),()),()),(((),(),v0.2.2.1,(),()),((),(),v1.2.2.1,(),()),(v2.1,v2.2.1,v2.2.2,()),()),(v1.1,v1.2.1,v1.2.2.2,()))
def yhA (v0 v1:Bool) (v2:List Int) (v3 v4:Int) (v5:List (List Int)) (v6:List dW) (v7:List Int):Option ((ya4).X ⊕ ((yeu).X ⊕ (yiZ).X)) :=
 bnd (ye (v2,v3,v4) 3) fun r9 =>
 bif (ltb (v6.length:Int) (IntKind.i64.wrap (59+r9.1.1))) then
 bif (zjR v6.length ([(0,[])]:List dW).length 32) then
 some (.inl ((((),()),((),()),((),()),()),(((),(),v0,(),()),((),(),v1,(),()),(r9.2.1.1,r9.2.1.2.1,r9.2.1.2.2,()),()),(v5,(v6++([(0,[])]:List dW)),v7,())))
 else none
 else
 some (.inr (.inl ((((),()),((),()),()),(((),(),v0,(),()),((),(),v1,(),()),(r9.2.1.1,r9.2.1.2.1,r9.2.1.2.2,()),()),(v5,v6,v7,()))))
def yan (x:(ya4).X):=yhA x.2.1.1.2.2.1 x.2.1.2.1.2.2.1 x.2.1.2.2.1.1 x.2.1.2.2.1.2.1 x.2.1.2.2.1.2.2.1 x.2.2.1 x.2.2.2.1 x.2.2.2.2.1
def ywq (x:(yeB).X):(ya4).X:=((((),()),((),()),((),()),()),(((),(),x.2.1.1.2.2.1,(),()),((),(),x.2.1.2.1.2.2.1,(),()),(x.2.1.2.2.1.1,x.2.1.2.2.1.2.1,x.2.1.2.2.1.2.2.1,()),()),(x.2.2.1,x.2.2.2.1,x.2.2.2.2.1,()))
def yxR:Code:=(zdD yoW 64 241656).getD .skip
theorem yJ3:zdD yoW 64 60414=some (.block 1 (.loop yxR)):=by kernel_rfl
theorem yLt (x:(ya4).X):zg0 ⟨yud,62,yFP⟩ 1 yxR 241656 ya4 yeu yiZ x=yan x:=by kernel_rfl
def ywy (x:(yeB).X):Nat:=18446744073709551616
def ypc (x:(yeB).X):Option ((yeu).X ⊕ (yiZ).X):=zz yan (ywy x) (ywq x)
def ywL:Seg:=⟨yeB,yeu,yiZ,ypc⟩
def yFQ:Nat→Option Seg:=fun q=>bif Nat.beq q 60414 then some ywL else yFP q
theorem ySZ:FrOk Tryz.prog ⟨yud,62,yFQ⟩ yoW:=(ySY).loop (sg:=ywL) ya4 ywq (by decide) yJ3 yan ywy (by decide) (fun _=>rfl) (fun x r _ h=>h) yLt
abbrev ypl:List Par:= [.pt tU .fz]
abbrev yuS:List OT:= [⟨false,tM,(.pr (.ow .fz) (.pr (.ow (.pr .fz .fz)) (.pr .fz (.ow .fz))))⟩]
def ygx (a0:dU):Option (ResD yuS×MutD ypl) :=
 bnd (yff a0) fun r1 =>
 bnd (ye r1.2.1 14) fun r2 =>
 bif (r2.1.1==0) then
 bnd (ycs r2.2.1) fun r3 =>
 bif (inb 0 r1.1.1.1.length) then
 some ((((r1.1.1.1.set (0:Int).toNat r3.1.1),r1.1.1.2),()),(r3.2.1,()))
 else none
 else
 bif (r2.1.1==1) then
 bnd (yp r2.2.1 ([(-1),0,9]:List Int)) fun r4 =>
 bnd (ycs r4.2.1) fun r5 =>
 bif (zjR r1.1.1.2.1.length ([(r4.1.1,r5.1.1)]:List dW).length 32) then
 some (((r1.1.1.1,(r1.1.1.2.1++([(r4.1.1,r5.1.1)]:List dW)),r1.1.1.2.2),()),(r5.2.1,()))
 else none
 else
 bif (r2.1.1==2) then
 bnd (yp r2.2.1 ([(-1),0,9]:List Int)) fun r6 =>
 bif (zjR r1.1.1.2.2.2.length ([r6.1.1]:List Int).length 8) then
 some (((r1.1.1.1,r1.1.1.2.1,r1.1.1.2.2.1,(r1.1.1.2.2.2++([r6.1.1]:List Int))),()),(r6.2.1,()))
 else none
 else
 bif (r2.1.1==3) then
 let r7:=yk3 r1.1.1
 some ((r7,()),(r2.2.1,()))
 else
 bif (r2.1.1==4) then
 zkh (ypc ((((),()),((),()),((),()),()),(((),(),false,(),()),((),(),r1.1.1.2.2.1,(),()),(r2.2.1.1,r2.2.1.2.1,r2.2.1.2.2,()),()),(r1.1.1.1,r1.1.1.2.1,r1.1.1.2.2.2,()))) (fun y9 =>
 some (((y9.2.2.1,y9.2.2.2.1,y9.2.1.2.1.2.2.1,y9.2.2.2.2.1),()),((y9.2.1.2.2.1.1,y9.2.1.2.2.1.2.1,y9.2.1.2.2.1.2.2.1),()))) (fun y9 =>
 none)
 else
 bif (r2.1.1==5) then
 some (((([]:List (List Int)),r1.1.1.2),()),(r2.2.1,()))
 else
 some ((r1.1.1,()),(r2.2.1,()))
theorem yZN (x:InD ypl):zjx ⟨yud,62,yFQ⟩ Tryz.f211.results.toList yoW ypl yuS x=ygx x.1:=by kernel_rfl
theorem yWQ:ConOk Tryz.prog 211 ⟨ypl,yuS,fun x=>ygx x.1⟩:=zj1 (ySZ) Tryz.func211 (by kernel_rfl) (by kernel_rfl) Tryz.ntmps211.symm (by decide) (fun x r h=>(yZN x).trans h)
def yGq:Con:=⟨ypl,yuS,fun x=>ygx x.1⟩
theorem yY8:ConOk Tryz.prog 211 yGq:=yWQ
theorem yXB: ∀ (n:Nat) (m:dM) (u:dU) (fuel:Nat),n < fuel→yD u→m.2.1.length+n=62∨(n=0∧61≤m.2.1.length∧m.2.1.length≤100) →
  ∃ (m':dM) (u':dU),zz yan fuel (yhy noMem m u)=some (.inl (yIW noMem m' u'))∧yD u'∧m'.1=m.1∧m'.2.1.length≤100
 | 0,m,u,fuel+1,_,hu,hn=>by
  obtain ⟨r,u1,e1,q1,d1⟩:=yy u 3 hu
  have:=q1.1; have:=q1.2.1 (by omega)
  refine ⟨m,u1,?_,d1,rfl,by omega⟩
  rw [zz]
  simp only [yan,yhy,yhA,zkr,e1,zkc,wr (show -9223372036854775808≤59+r by omega) (by omega),zkx (show 59+r≤(m.2.1.length:Int) by omega),cond_false]
 | n+1,m,u,fuel+1,hf,hu,hn=>by
  obtain ⟨r,u1,e1,q1,d1⟩:=yy u 3 hu
  have:=q1.1; have:=q1.2.1 (by omega)
  by_cases hlt:(m.2.1.length:Int) < 59+r
  ·obtain ⟨m',u',e2,d2,l2⟩:=yXB n (m.1,m.2.1++ [(0,[])],m.2.2) u1 fuel (by omega) d1 (.inl (by
    show (m.2.1++ [((0:Int),([]:List Int))]).length+n=62
    rw [List.length_append]; simp only [List.length_cons,List.length_nil]; omega))
   refine ⟨m',u',?_,d2,l2⟩
   rw [← e2,zz]
   simp only [yan,yhy,yhA,zkr,e1,zkc,wr (show -9223372036854775808≤59+r by omega) (by omega),zj4 hlt,cond_true,zka.2 (show (m.2.1.length+ [((0:Int),([]:List Int))].length) * 32≤140737488355328 by simp only [List.length_cons,List.length_nil]; omega)]
  ·refine ⟨m,u1,?_,d1,rfl,by omega⟩
   rw [zz]
   simp only [yan,yhy,yhA,zkr,e1,zkc,wr (show -9223372036854775808≤59+r by omega) (by omega),zkx (show 59+r≤(m.2.1.length:Int) by omega),cond_false]
theorem y1Y (u:dU) (h:yD u): ∃ (m:dM) (u':dU),ygx u=some ((m,()),(u',()))∧(m.1.length≤100∧m.2.1.length≤100)∧yD u':=by
 unfold ygx
 obtain ⟨m,u1,e1,q1,d1⟩:=y1p u h
 obtain ⟨r,u2,e2,_,d2⟩:=yy u1 14 d1
 obtain ⟨h1,h2,h3,h4,h5,h6⟩:=ya9 q1
 rw [ylh]at h3
 have hlen:=yLy h3.2 (lo:=0) (n:=m.1.length) h3.1 (by omega)
 simp only [e1,e2,zkc]
 cases (r==0)
 ·cases (r==1)
  ·cases (r==2)
   ·cases (r==3)
    ·cases (r==4)
     ·cases (r==5)
      ·exact ⟨_,_,rfl,by omega,d2⟩
      ·exact ⟨_,_,rfl,⟨Nat.zero_le _,by show m.2.1.length≤100; omega⟩,d2⟩
     ·obtain ⟨m',u',e3,d3,l3,l4⟩:=yXB (62 - m.2.1.length) m u2 18446744073709551616 (by omega) d2 (.inl (by omega))
      simp only [cond_true,cond_false]
      refine ⟨m',u',?_,⟨by rw [l3]; omega,l4⟩,d3⟩
      exact (congrArg (fun z=>zkh z _ _) (show ypc (yI3 noMem m u2)=_ from e3)).trans rfl
    ·exact ⟨_,_,rfl,⟨by show m.1.length≤100; omega,Nat.zero_le _⟩,d2⟩
   ·obtain ⟨x,u3,e3,_,d3⟩:=yi3 u2 [(-1),0,9] d2 (by simp)
    simp only [cond_true,cond_false,e3,zkc]
    rw [zka.2 (show (m.2.2.2.length+ [x].length) * 8≤140737488355328 by simp only [List.length_cons,List.length_nil]; omega)]
    exact ⟨_,_,rfl,⟨by show m.1.length≤100; omega,by show m.2.1.length≤100; omega⟩,d3⟩
  ·obtain ⟨x,u3,e3,_,d3⟩:=yi3 u2 [(-1),0,9] d2 (by simp)
   obtain ⟨l,u4,e4,_,d4⟩:=yOs u3 d3
   simp only [cond_true,cond_false,e3,zkc,e4]
   rw [zka.2 (show (m.2.1.length+ [(x,l)].length) * 32≤140737488355328 by simp only [List.length_cons,List.length_nil]; omega)]
   exact ⟨_,_,rfl,⟨by show m.1.length≤100; omega,by show (m.2.1++ [(x,l)]).length≤100; rw [List.length_append]; simp only [List.length_cons,List.length_nil]; omega⟩,d4⟩
 ·obtain ⟨l,u3,e3,_,d3⟩:=yOs u2 d2
  simp only [cond_true,e3,zkc]
  rw [show inb 0 m.1.length=true from zkl (i:=0) (by omega)]
  exact ⟨_,_,rfl,⟨by show (m.1.set _ _).length≤100; rw [List.length_set]; omega,by show m.2.1.length≤100; omega⟩,d3⟩
end
end
end Go.Tf
