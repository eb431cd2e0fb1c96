/- Functions of the program, and what they come to. -/
import Derived.Test.YtgmadfpnljibhaaGreatScrubsF10
namespace Go.Tf
noncomputable section
open Go.Proofs
set_option synthInstance.maxHeartbeats 400000
set_option synthInstance.maxSize 10000
set_option linter.unusedVariables false
set_option linter.unusedSimpArgs false
set_option maxRecDepth 100000
section
def yFy:Code:=(Tryz.f210.body).getD .skip
def yF9:Env:=zki TT [(105,yxg),(109,yyZ),(110,ytB),(115,ymS),(121,yey),(141,ycD),(150,yC),(182,yD6),(185,yry),(186,yD4),(199,yyY),(208,yrx),(265,ypu)] []
theorem yMd:FrOk Tryz.prog ⟨yF9,160,fun _=>none⟩ yFy:=zkp yc yd ⟨yNP,yRG,yEo,yu6,yj9,yfH,yM,yWH,yCp,yWF,yRF,yCo,yzT,trivial⟩
def yOu:Nat→Option Seg:=fun _=>none
abbrev yh:List Par:= [.pt tU .fz,.pt tA (.pr .fz (.pr (.pr .fz .fz) (.pr (.ow (.pr (.ow .fz) (.pr (.ow (.pr .fz .fz)) (.pr .fz (.ow .fz))))) (.pr .fz (.pr .fz (.pr .fz (.pr .fz (.pr .fz (.pr (.ow (.pr .fz .fz)) (.pr .fz (.pr .fz .fz)))))))))))]
abbrev yk:List OT:= []
def yeE (a0:dU) (a1:dA):Option (ResD yk×MutD yh) :=
  bnd (yb a0 14) fun r1 =>
  let k1:Option (ResD yk×MutD yh) :=
    bnd (yak r1.2.1 3) fun r9 =>
    bif r9.1.1 then
      bif (a1.2.2.2.1==(-1)) then
        bnd (yb r9.2.1 a1.2.1.1) fun r10 =>
        bnd (yj6 a1 r10.1.1) fun r11 =>
        some ((),(r10.2.1,r11.2.1,()))
      else
        some ((),(r9.2.1,a1,()))
    else
      some ((),(r9.2.1,a1,()))
  let k2:Option (ResD yk×MutD yh) :=
    bif (inb a1.2.2.2.1 a1.2.2.1.length) then
      bif (((nth a1.2.2.1 a1.2.2.2.1 ([],[],false,[])).2).2).1 then
        bnd (yib a1) fun r12 =>
        some ((),(r1.2.1,r12.2.1,()))
      else
        some ((),(r1.2.1,a1,()))
    else none
  let k3:Option (ResD yk×MutD yh) :=
    bif (leb 0 a1.2.2.2.1) then
      k2
    else
      some ((),(r1.2.1,a1,()))
  let k4:Option (ResD yk×MutD yh) :=
    bif (inb a1.2.2.2.1 a1.2.2.1.length) then
      bif (!((((nth a1.2.2.1 a1.2.2.2.1 ([],[],false,[])).2).2).1)) then
        bif (ltb a1.2.2.2.2.1 a1.2.1.2) then
          bnd (yj7 a1) fun r13 =>
          some ((),(r1.2.1,r13.2.1,()))
        else
          some ((),(r1.2.1,a1,()))
      else
        some ((),(r1.2.1,a1,()))
    else none
  let k5:Option (ResD yk×MutD yh) :=
    bif (leb 0 a1.2.2.2.1) then
      k4
    else
      some ((),(r1.2.1,a1,()))
  let k6:Option (ResD yk×MutD yh) :=
    bnd (yak r1.2.1 3) fun r15 =>
    bif r15.1.1 then
      bnd (yb r15.2.1 a1.2.1.1) fun r16 =>
      bif (inb r16.1.1 a1.2.2.1.length) then
        bnd (yb r16.2.1 a1.2.1.2) fun r17 =>
        let r18:=yaw r17.1.1
        let r19:=yeA ((nth a1.2.2.1 r16.1.1 ([],[],false,[])).1,((nth a1.2.2.1 r16.1.1 ([],[],false,[])).2).1,(((nth a1.2.2.1 r16.1.1 ([],[],false,[])).2).2)) r18
        bif (inb r16.1.1 a1.2.2.1.length) then
          some ((),(r17.2.1,(a1.1,a1.2.1,(a1.2.2.1.set (r16.1.1).toNat r19),a1.2.2.2),()))
        else none
      else none
    else
      some ((),(r15.2.1,a1,()))
  let k7:Option (ResD yk×MutD yh) :=
    bif (a1.2.2.2.1==(-1)) then
      k6
    else
      some ((),(r1.2.1,a1,()))
  let k8:Option (ResD yk×MutD yh) :=
    bif (r1.1.1==12) then
      let r14:=yfG a1
      some ((),(r1.2.1,r14,()))
    else
      k7
  let k9:Option (ResD yk×MutD yh) :=
    bif (r1.1.1==10) then
      k5
    else
      k8
  let k10:Option (ResD yk×MutD yh) :=
    bif (r1.1.1==11) then
      k5
    else
      k8
  let k11:Option (ResD yk×MutD yh) :=
    bif (r1.1.1==10) then
      k9
    else
      k10
  let k12:Option (ResD yk×MutD yh) :=
    bif (r1.1.1==9) then
      k3
    else
      k11
  let k13:Option (ResD yk×MutD yh) :=
    bif (r1.1.1==8) then
      k1
    else
      k12
  let k14:Option (ResD yk×MutD yh) :=
    bif (r1.1.1==7) then
      bnd (yn7 a1) fun r8 =>
      some ((),(r1.2.1,r8.2.1,()))
    else
      k13
  let k15:Option (ResD yk×MutD yh) :=
    bif (r1.1.1==4) then
      bnd (yb r1.2.1 a1.2.1.2) fun r6 =>
      bnd (yb5 a1 r6.1.1) fun r7 =>
      some ((),(r6.2.1,r7.2.1,()))
    else
      k14
  let k16:Option (ResD yk×MutD yh) :=
    bif (r1.1.1==5) then
      bnd (yb r1.2.1 a1.2.1.2) fun r27 =>
      bnd (yb5 a1 r27.1.1) fun r28 =>
      some ((),(r27.2.1,r28.2.1,()))
    else
      k14
  let k17:Option (ResD yk×MutD yh) :=
    bif (r1.1.1==6) then
      bnd (yb r1.2.1 a1.2.1.2) fun r48 =>
      bnd (yb5 a1 r48.1.1) fun r49 =>
      some ((),(r48.2.1,r49.2.1,()))
    else
      k14
  let k18:Option (ResD yk×MutD yh) :=
    bif (r1.1.1==5) then
      k16
    else
      k17
  let k19:Option (ResD yk×MutD yh) :=
    bif (r1.1.1==4) then
      k15
    else
      k18
  bif (r1.1.1==0) then
    bif (r1.1.1==0) then
      let r2:=yf a1.2.1
      bnd (yb r1.2.1 r2) fun r3 =>
      bnd (yN r3.2.1) fun r4 =>
      bnd (yed a1 r3.1.1 r4.1.1) fun r5 =>
      some ((),(r4.2.1,r5.2.1,()))
    else
      k19
  else
    bif (r1.1.1==1) then
      bif (r1.1.1==1) then
        let r69:=yf a1.2.1
        bnd (yb r1.2.1 r69) fun r70 =>
        bnd (yN r70.2.1) fun r71 =>
        bnd (yed a1 r70.1.1 r71.1.1) fun r72 =>
        some ((),(r71.2.1,r72.2.1,()))
      else
        k19
    else
      bif (r1.1.1==2) then
        bif (r1.1.1==2) then
          let r136:=yf a1.2.1
          bnd (yb r1.2.1 r136) fun r137 =>
          bnd (yN r137.2.1) fun r138 =>
          bnd (yed a1 r137.1.1 r138.1.1) fun r139 =>
          some ((),(r138.2.1,r139.2.1,()))
        else
          k19
      else
        bif (r1.1.1==3) then
          let r203:=yf a1.2.1
          bnd (yb r1.2.1 r203) fun r204 =>
          bnd (yN r204.2.1) fun r205 =>
          bnd (yed a1 r204.1.1 r205.1.1) fun r206 =>
          some ((),(r205.2.1,r206.2.1,()))
        else
          k19
theorem yVT (x:InD yh):zjH ⟨yF9,160,yOu⟩ Tryz.f210.results.toList yFy yh yk x=yeE x.1 x.2.1:=by kernel_rfl
theorem yRn:ConOk Tryz.prog 210 ⟨yh,yk,fun x=>yeE x.1 x.2.1⟩:=zkh (yMd) Tryz.func210 (by kernel_rfl) (by kernel_rfl) Tryz.ntmps210.symm (by decide) (fun x r h=>(yVT x).trans h)
def yBV:Con:=⟨yh,yk,fun x=>yeE x.1 x.2.1⟩
theorem yUw:ConOk Tryz.prog 210 yBV:=yRn
def yvH (a:dA) (z:Option (ResD yk×MutD yh)):Prop:= ∃ (u':dU) (a':dA),z=some ((),(u',a',()))∧yI u'∧Turned a a'
def yYJ (u:dU) (a:dA):Option (ResD yk×MutD yh) :=
  bnd (yb u (yf a.2.1)) fun r3=>bnd (yN r3.2.1) fun r4=>bnd (yed a r3.1.1 r4.1.1) fun r5=>some ((),(r4.2.1,r5.2.1,()))
def yVd (u:dU) (a:dA):Option (ResD yk×MutD yh) :=
  bnd (yb u a.2.1.2) fun r6=>bnd (yb5 a r6.1.1) fun r7=>some ((),(r6.2.1,r7.2.1,()))
def yXZ (u:dU) (a:dA):Option (ResD yk×MutD yh) :=
  bnd (yak u 3) fun r9=>bif r9.1.1 then (bif (a.2.2.2.1==(-1)) then (bnd (yb r9.2.1 a.2.1.1) fun r10=>bnd (yj6 a r10.1.1) fun r11=>some ((),(r10.2.1,r11.2.1,()))) else some ((),(r9.2.1,a,()))) else some ((),(r9.2.1,a,()))
def yVe (u:dU) (a:dA):Option (ResD yk×MutD yh) :=
  bif leb 0 a.2.2.2.1 then (bif inb a.2.2.2.1 a.2.2.1.length then (bif (nth a.2.2.1 a.2.2.2.1 noMem).2.2.1 then (bnd (yib a) fun r12=>some ((),(u,r12.2.1,()))) else some ((),(u,a,()))) else none) else some ((),(u,a,()))
def yX0 (u:dU) (a:dA):Option (ResD yk×MutD yh) :=
  bif leb 0 a.2.2.2.1 then (bif inb a.2.2.2.1 a.2.2.1.length then (bif !(nth a.2.2.1 a.2.2.2.1 noMem).2.2.1 then (bif ltb a.2.2.2.2.1 a.2.1.2 then (bnd (yj7 a) fun r13=>some ((),(u,r13.2.1,()))) else some ((),(u,a,()))) else some ((),(u,a,()))) else none) else some ((),(u,a,()))
def yIF (u:dU) (a:dA):Option (ResD yk×MutD yh) :=
  bif (a.2.2.2.1==(-1)) then (bnd (yak u 3) fun r15=>bif r15.1.1 then (bnd (yb r15.2.1 a.2.1.1) fun r16=>bif inb r16.1.1 a.2.2.1.length then (bnd (yb r16.2.1 a.2.1.2) fun r17 =>
    bif inb r16.1.1 a.2.2.1.length then some ((),(r17.2.1,setMem a r16.1.1 (spoil (nth a.2.2.1 r16.1.1 noMem) (dataAt r17.1.1)),())) else none) else none) else some ((),(r15.2.1,a,()))) else some ((),(u,a,()))
theorem yE8 {u:dU} {a:dA} (h:coreOk a) (hk:Keep a) (hu:yI u):yvH a (yYJ u a):=by
  have hg:=yg.1 h.1
  have hd:=ysk h.2.2.1 h.1
  obtain ⟨b,u1,e1,q1,d1⟩:=yB u (yf a.2.1) hu
  obtain ⟨x,u2,e2,q2,d2⟩:=ySA u1 d1
  have hx:isW x=true:=by rw [ybC]at q2; exact q2
  have hbl:0 < yf a.2.1:=by
    rw [yEw h.1]
    exact Int.mul_pos (by omega) (by omega)
  have hb:blkOk a.2.1 b=true:=by
    have:=q1.2.1 hbl
    unfold blkOk
    rw [zk0 q1.1,zk0 (show b≤yf a.2.1 - 1 by omega)]; rfl
  unfold yYJ
  rw [e1,zky,e2,zky,yWK a b x (by unfold yn9; rw [ySw.2 ⟨h,hk⟩,hb]; exact decide_eq_true (show a.2.2.2.2.2.2.2.2.1.length≤1000 by omega)),zky]
  exact ⟨_,_,rfl,d2,.put b x hb hx⟩
theorem yE7 {u:dU} {a:dA} (h:coreOk a) (hu:yI u):yvH a (yVd u a):=by
  have hd:=ysk h.2.2.1 h.1
  obtain ⟨s,u1,e1,q1,d1⟩:=yB u a.2.1.2 hu
  unfold yVd
  rw [e1,zky,yCr a s (decide_eq_true (show a.2.2.2.2.2.2.2.2.1.length≤1000 by omega)),zky]
  exact ⟨_,_,rfl,d1,.flush s⟩
theorem yZZ {u:dU} {a:dA} (h:coreOk a) (hu:yI u):yvH a (bnd (yn7 a) fun r8=>some ((),(u,r8.2.1,()))):=by
  have hd:=ysk h.2.2.1 h.1
  rw [yWI a (decide_eq_true (show a.2.2.2.2.2.2.2.2.1.length≤1000 by omega)),zky]
  exact ⟨_,_,rfl,hu,.all⟩
theorem yZp {u:dU} {a:dA} (h:coreOk a) (hk:Keep a) (hu:yI u):yvH a (yXZ u a):=by
  have hg:=yg.1 h.1
  have hl:=hk.1.2
  obtain ⟨r,u1,e1,d1⟩:=ySB u 3 hu
  unfold yXZ
  rw [e1,zky]
  cases r
  · exact ⟨_,_,rfl,d1,.same⟩
  · cases h1:(a.2.2.2.1==(-1))
    · exact ⟨_,_,rfl,d1,.same⟩
    · obtain ⟨m,u2,e2,q2,d2⟩:=yB u1 a.2.1.1 d1
      have hm:inb m a.2.2.1.length=true:=zjP.2 ⟨q2.1,by have:=q2.2.1 (by omega); omega⟩
      simp only [cond_true]
      rw [e2,zky,yRK a m hm,zky]
      exact ⟨_,_,rfl,d2,.fail m (beq_iff_eq.1 h1) hm⟩
theorem yY0 {u:dU} {a:dA} (h:coreOk a) (hk:Keep a) (hu:yI u):yvH a (yVe u a):=by
  have hl:=hk.1.2
  have hc:=h.2.2.2.1
  unfold yVe
  cases h0:leb 0 a.2.2.2.1
  · exact ⟨_,_,rfl,hu,.same⟩
  · have hi:inb a.2.2.2.1 a.2.2.1.length=true:=zjP.2 ⟨zjQ.1 h0,by omega⟩
    rw [hi]
    cases hf:(nth a.2.2.1 a.2.2.2.1 noMem).2.2.1
    · exact ⟨_,_,rfl,hu,.same⟩
    · simp only [cond_true]
      rw [yNQ a (by unfold yid; rw [h.1,hi]; rfl),zky]
      exact ⟨_,_,rfl,hu,.spare hi hf⟩
theorem yVf {u:dU} {a:dA} (h:coreOk a) (hk:Keep a) (hu:yI u):yvH a (yX0 u a):=by
  have hl:=hk.1.2
  have hc:=h.2.2.2.1
  unfold yX0
  cases h0:leb 0 a.2.2.2.1
  · exact ⟨_,_,rfl,hu,.same⟩
  · have h0':=zjQ.1 h0
    have hi:inb a.2.2.2.1 a.2.2.1.length=true:=zjP.2 ⟨h0',by omega⟩
    rw [hi]
    cases hf:(nth a.2.2.1 a.2.2.2.1 noMem).2.2.1
    · cases hb:ltb a.2.2.2.2.1 a.2.1.2
      · exact ⟨_,_,rfl,hu,.same⟩
      · simp only [cond_true,Bool.not_false]
        rw [yRL a (by unfold ykb; rw [h.1,hi,zjP.2 (show 0≤a.2.2.2.1∧a.2.2.2.1 < a.2.1.1.toNat by omega)]; rfl),zky]
        exact ⟨_,_,rfl,hu,.step hi hf (zjT.1 hb)⟩
    · exact ⟨_,_,rfl,hu,.same⟩
theorem yY1 {u:dU} {a:dA} (h:coreOk a) (hk:Keep a) (hu:yI u):yvH a (yIF u a):=by
  have hg:=yg.1 h.1
  have hl:=hk.1.2
  unfold yIF
  cases (a.2.2.2.1==(-1))
  · exact ⟨_,_,rfl,hu,.same⟩
  · obtain ⟨r,u1,e1,d1⟩:=ySB u 3 hu
    simp only [cond_true]
    rw [e1,zky]
    cases r
    · exact ⟨_,_,rfl,d1,.same⟩
    · obtain ⟨m,u2,e2,q2,d2⟩:=yB u1 a.2.1.1 d1
      have hm:inb m a.2.2.1.length=true:=zjP.2 ⟨q2.1,by have:=q2.2.1 (by omega); omega⟩
      obtain ⟨s,u3,e3,q3,d3⟩:=yB u2 a.2.1.2 d2
      simp only [cond_true]
      rw [e2,zky]
      simp only [hm,cond_true]
      rw [e3,zky]
      exact ⟨_,_,rfl,d3,.spoil m s hm q3.1 (q3.2.1 (by omega))⟩
theorem y0b (u:dU) (a:dA) (hu:yI u) (h:coreOk a) (hk:Keep a):yvH a (yeE u a):=by
  obtain ⟨r,u1,e1,q1,d1⟩:=yB u 14 hu
  have hr:=q1.2.1 (by omega)
  have h0:=q1.1
  unfold yeE
  rw [e1,zky]
  have hc:(r=0∨r=1∨r=2∨r=3)∨(r=4∨r=5∨r=6)∨r=7∨r=8∨r=9∨(r=10∨r=11)∨r=12∨r=13:=by omega
  rcases hc with (rfl | rfl | rfl | rfl) | (rfl | rfl | rfl) | rfl | rfl | rfl | (rfl | rfl) | rfl | rfl
  · exact yE8 h hk d1
  · exact yE8 h hk d1
  · exact yE8 h hk d1
  · exact yE8 h hk d1
  · exact yE7 h d1
  · exact yE7 h d1
  · exact yE7 h d1
  · exact yZZ h d1
  · exact yZp h hk d1
  · exact yY0 h hk d1
  · exact yVf h hk d1
  · exact yVf h hk d1
  · refine ⟨u1,checkA a,?_,d1,.check⟩
    rw [← yGo]; rfl
  · have:=yY1 h hk d1
    unfold yIF at this
    simp only [← ydG]at this
    exact this
end
section
def yk2:Code:=(Tryz.f113.body).getD .skip
def yqm:Env:=zki TT [(49,yBM),(150,yC),(209,yD2),(210,yBV)] []
theorem yL8:FrOk Tryz.prog ⟨yqm,24,fun _=>none⟩ yk2:=zkp yc yd ⟨yUn,yM,yWD,yUw,trivial⟩
def yAX:Nat→Option Seg:=fun _=>none
def ybN:Shape:=⟨[(0,false,[.ptr 1000000000 0]),(4,false,[.ptr 0 0]),(5,false,[.ptr 4480 0]),(6,false,[.int .i64])],[(0,[.int .i64,.int .i64,.int .i64,.nil,.int .i64,.int .i64,.int .i64,.int .i64,.int .i64,.nil,.int .i64,.bool,.bool]),(4480,[.int .i64,.int .i64,.int .i64,.at 800000000,.int .i64,.int .i64,.int .i64,.int .i64,.int .i64,.at 800000001,.int .i64,.bool,.bool]),(1000000000,[.fz tY,.int .i64,.int .i64])],[(800000000,tM,(.pr (.ow .fz) (.pr (.ow (.pr .fz .fz)) (.pr .fz (.ow .fz))))),(800000001,tW,(.pr .fz .fz))]⟩
def ygg:Shape:=⟨[(0,false,[.ptr 1000000000 0]),(4,false,[.ptr 0 0]),(5,false,[.ptr 4480 0]),(6,false,[.int .i64])],[(0,[.int .i64,.int .i64,.int .i64,.nil,.int .i64,.int .i64,.int .i64,.int .i64,.int .i64,.nil,.int .i64,.bool,.bool]),(4480,[.int .i64,.int .i64,.int .i64,.at 800000000,.int .i64,.int .i64,.int .i64,.int .i64,.int .i64,.at 800000001,.int .i64,.bool,.bool]),(1000000000,[.fz tY,.int .i64,.int .i64])],[(800000000,tM,(.pr (.ow .fz) (.pr (.ow (.pr .fz .fz)) (.pr .fz (.ow .fz))))),(800000001,tW,(.pr .fz .fz))]⟩
def yf4:Shape:=⟨[(4,false,[.ptr 0 0]),(5,false,[.ptr 4480 0])],[(0,[.int .i64,.int .i64,.int .i64,.nil,.int .i64,.int .i64,.int .i64,.int .i64,.int .i64,.nil,.int .i64,.bool,.bool]),(4480,[.int .i64,.int .i64,.int .i64,.at 800000000,.int .i64,.int .i64,.int .i64,.int .i64,.int .i64,.at 800000001,.int .i64,.bool,.bool]),(1000000000,[.fz tY,.int .i64,.int .i64])],[(800000000,tM,(.pr (.ow .fz) (.pr (.ow (.pr .fz .fz)) (.pr .fz (.ow .fz))))),(800000001,tW,(.pr .fz .fz))]⟩
def ykv:Shape:=⟨[],[],[]⟩
abbrev ypF (v0:Int) (v1:dA) (v2:dA) (v3:dU):(ybN).X:=((((),()),((),()),((),()),(v0,()),()),((v1.1,v1.2.1.1,v1.2.1.2,(),v1.2.2.2.1,v1.2.2.2.2.1,v1.2.2.2.2.2.1,v1.2.2.2.2.2.2.1,v1.2.2.2.2.2.2.2.1,(),v1.2.2.2.2.2.2.2.2.2.1,v1.2.2.2.2.2.2.2.2.2.2.1,v1.2.2.2.2.2.2.2.2.2.2.2,()),(v2.1,v2.2.1.1,v2.2.1.2,(),v2.2.2.2.1,v2.2.2.2.2.1,v2.2.2.2.2.2.1,v2.2.2.2.2.2.2.1,v2.2.2.2.2.2.2.2.1,(),v2.2.2.2.2.2.2.2.2.2.1,v2.2.2.2.2.2.2.2.2.2.2.1,v2.2.2.2.2.2.2.2.2.2.2.2,()),(v3.1,v3.2.1,v3.2.2,()),()),(v2.2.2.1,v2.2.2.2.2.2.2.2.2.1,()))
abbrev yJ5 (v0:Int) (v1:dA) (v2:dA) (v3:dU):(ygg).X:=((((),()),((),()),((),()),(v0,()),()),((v1.1,v1.2.1.1,v1.2.1.2,(),v1.2.2.2.1,v1.2.2.2.2.1,v1.2.2.2.2.2.1,v1.2.2.2.2.2.2.1,v1.2.2.2.2.2.2.2.1,(),v1.2.2.2.2.2.2.2.2.2.1,v1.2.2.2.2.2.2.2.2.2.2.1,v1.2.2.2.2.2.2.2.2.2.2.2,()),(v2.1,v2.2.1.1,v2.2.1.2,(),v2.2.2.2.1,v2.2.2.2.2.1,v2.2.2.2.2.2.1,v2.2.2.2.2.2.2.1,v2.2.2.2.2.2.2.2.1,(),v2.2.2.2.2.2.2.2.2.2.1,v2.2.2.2.2.2.2.2.2.2.2.1,v2.2.2.2.2.2.2.2.2.2.2.2,()),(v3.1,v3.2.1,v3.2.2,()),()),(v2.2.2.1,v2.2.2.2.2.2.2.2.2.1,()))
abbrev yJV (v0:dA) (v1:dA) (v2:dU):(yf4).X:=((((),()),((),()),()),((v0.1,v0.2.1.1,v0.2.1.2,(),v0.2.2.2.1,v0.2.2.2.2.1,v0.2.2.2.2.2.1,v0.2.2.2.2.2.2.1,v0.2.2.2.2.2.2.2.1,(),v0.2.2.2.2.2.2.2.2.2.1,v0.2.2.2.2.2.2.2.2.2.2.1,v0.2.2.2.2.2.2.2.2.2.2.2,()),(v1.1,v1.2.1.1,v1.2.1.2,(),v1.2.2.2.1,v1.2.2.2.2.1,v1.2.2.2.2.2.1,v1.2.2.2.2.2.2.1,v1.2.2.2.2.2.2.2.1,(),v1.2.2.2.2.2.2.2.2.2.1,v1.2.2.2.2.2.2.2.2.2.2.1,v1.2.2.2.2.2.2.2.2.2.2.2,()),(v2.1,v2.2.1,v2.2.2,()),()),(v1.2.2.1,v1.2.2.2.2.2.2.2.2.1,()))
def ypU (v0:Int) (v1:Int) (v2:Int) (v3:Int) (v4:Int) (v5:Int) (v6:Int) (v7:Int) (v8:Int) (v9:Int) (v10:Bool) (v11:Bool) (v12:Int) (v13:Int) (v14:Int) (v15:Int) (v16:Int) (v17:Int) (v18:Int) (v19:Int) (v20:Int) (v21:Bool) (v22:Bool) (v23:List Int) (v24:Int) (v25:Int) (v26:List dM) (v27:List dW):Option ((ybN).X ⊕ ((yf4).X ⊕ (ykv).X)) :=
  bif (ltb 0 v0) then
    bnd (yeE (v23,v24,v25) (v12,(v13,v14),v26,v15,v16,v17,v18,v19,v27,v20,v21,v22)) fun r6 =>
    some (.inl ((((),()),((),()),((),()),((IntKind.i64.wrap (v0 - 1)),()),()),((v1,v2,v3,(),v4,v5,v6,v7,v8,(),v9,v10,v11,()),(r6.2.2.1.1,r6.2.2.1.2.1.1,r6.2.2.1.2.1.2,(),r6.2.2.1.2.2.2.1,r6.2.2.1.2.2.2.2.1,r6.2.2.1.2.2.2.2.2.1,r6.2.2.1.2.2.2.2.2.2.1,r6.2.2.1.2.2.2.2.2.2.2.1,(),r6.2.2.1.2.2.2.2.2.2.2.2.2.1,r6.2.2.1.2.2.2.2.2.2.2.2.2.2.1,r6.2.2.1.2.2.2.2.2.2.2.2.2.2.2,()),(r6.2.1.1,r6.2.1.2.1,r6.2.1.2.2,()),()),(r6.2.2.1.2.2.1,r6.2.2.1.2.2.2.2.2.2.2.2.1,())))
  else
    some (.inr (.inl ((((),()),((),()),()),((v1,v2,v3,(),v4,v5,v6,v7,v8,(),v9,v10,v11,()),(v12,v13,v14,(),v15,v16,v17,v18,v19,(),v20,v21,v22,()),(v23,v24,v25,()),()),(v26,v27,()))))
def ycf (x:(ybN).X):=ypU x.1.2.2.2.1.1 x.2.1.1.1 x.2.1.1.2.1 x.2.1.1.2.2.1 x.2.1.1.2.2.2.2.1 x.2.1.1.2.2.2.2.2.1 x.2.1.1.2.2.2.2.2.2.1 x.2.1.1.2.2.2.2.2.2.2.1 x.2.1.1.2.2.2.2.2.2.2.2.1 x.2.1.1.2.2.2.2.2.2.2.2.2.2.1 x.2.1.1.2.2.2.2.2.2.2.2.2.2.2.1 x.2.1.1.2.2.2.2.2.2.2.2.2.2.2.2.1 x.2.1.2.1.1 x.2.1.2.1.2.1 x.2.1.2.1.2.2.1 x.2.1.2.1.2.2.2.2.1 x.2.1.2.1.2.2.2.2.2.1 x.2.1.2.1.2.2.2.2.2.2.1 x.2.1.2.1.2.2.2.2.2.2.2.1 x.2.1.2.1.2.2.2.2.2.2.2.2.1 x.2.1.2.1.2.2.2.2.2.2.2.2.2.2.1 x.2.1.2.1.2.2.2.2.2.2.2.2.2.2.2.1 x.2.1.2.1.2.2.2.2.2.2.2.2.2.2.2.2.1 x.2.1.2.2.1.1 x.2.1.2.2.1.2.1 x.2.1.2.2.1.2.2.1 x.2.2.1 x.2.2.2.1
def yxq (x:(ygg).X):(ybN).X:=((((),()),((),()),((),()),(x.1.2.2.2.1.1,()),()),((x.2.1.1.1,x.2.1.1.2.1,x.2.1.1.2.2.1,(),x.2.1.1.2.2.2.2.1,x.2.1.1.2.2.2.2.2.1,x.2.1.1.2.2.2.2.2.2.1,x.2.1.1.2.2.2.2.2.2.2.1,x.2.1.1.2.2.2.2.2.2.2.2.1,(),x.2.1.1.2.2.2.2.2.2.2.2.2.2.1,x.2.1.1.2.2.2.2.2.2.2.2.2.2.2.1,x.2.1.1.2.2.2.2.2.2.2.2.2.2.2.2.1,()),(x.2.1.2.1.1,x.2.1.2.1.2.1,x.2.1.2.1.2.2.1,(),x.2.1.2.1.2.2.2.2.1,x.2.1.2.1.2.2.2.2.2.1,x.2.1.2.1.2.2.2.2.2.2.1,x.2.1.2.1.2.2.2.2.2.2.2.1,x.2.1.2.1.2.2.2.2.2.2.2.2.1,(),x.2.1.2.1.2.2.2.2.2.2.2.2.2.2.1,x.2.1.2.1.2.2.2.2.2.2.2.2.2.2.2.1,x.2.1.2.1.2.2.2.2.2.2.2.2.2.2.2.2.1,()),(x.2.1.2.2.1.1,x.2.1.2.2.1.2.1,x.2.1.2.2.1.2.2.1,()),()),(x.2.2.1,x.2.2.2.1,()))
def yyK:Code:=(zdI yk2 64 116).getD .skip
theorem yLm:zdI yk2 64 29=some (.block 0 (.loop yyK)):=by kernel_rfl
theorem yN0 (x:(ybN).X):zg7 ⟨yqm,24,yAX⟩ 0 yyK 116 ybN yf4 ykv x=ycf x:=by kernel_rfl
def yxC (x:(ygg).X):Nat:=(fun (u0:Int) (u1:Int) (u2:Int) (u3:Int) (u4:Int) (u5:Int) (u6:Int) (u7:Int) (u8:Int) (u9:Int) (u10:Bool) (u11:Bool) (u12:Int) (u13:Int) (u14:Int) (u15:Int) (u16:Int) (u17:Int) (u18:Int) (u19:Int) (u20:Int) (u21:Bool) (u22:Bool) (u23:List Int) (u24:Int) (u25:Int) (u26:List dM) (u27:List dW)=>18446744073709551616) x.1.2.2.2.1.1 x.2.1.1.1 x.2.1.1.2.1 x.2.1.1.2.2.1 x.2.1.1.2.2.2.2.1 x.2.1.1.2.2.2.2.2.1 x.2.1.1.2.2.2.2.2.2.1 x.2.1.1.2.2.2.2.2.2.2.1 x.2.1.1.2.2.2.2.2.2.2.2.1 x.2.1.1.2.2.2.2.2.2.2.2.2.2.1 x.2.1.1.2.2.2.2.2.2.2.2.2.2.2.1 x.2.1.1.2.2.2.2.2.2.2.2.2.2.2.2.1 x.2.1.2.1.1 x.2.1.2.1.2.1 x.2.1.2.1.2.2.1 x.2.1.2.1.2.2.2.2.1 x.2.1.2.1.2.2.2.2.2.1 x.2.1.2.1.2.2.2.2.2.2.1 x.2.1.2.1.2.2.2.2.2.2.2.1 x.2.1.2.1.2.2.2.2.2.2.2.2.1 x.2.1.2.1.2.2.2.2.2.2.2.2.2.2.1 x.2.1.2.1.2.2.2.2.2.2.2.2.2.2.2.1 x.2.1.2.1.2.2.2.2.2.2.2.2.2.2.2.2.1 x.2.1.2.2.1.1 x.2.1.2.2.1.2.1 x.2.1.2.2.1.2.2.1 x.2.2.1 x.2.2.2.1
def yrm (x:(ygg).X):Option ((yf4).X ⊕ (ykv).X):=zr ycf (yxC x) (yxq x)
def yxT:Seg:=⟨ygg,yf4,ykv,yrm⟩
def yAY:Nat→Option Seg:=fun q=>bif Nat.beq q 29 then some yxT else yAX q
theorem yL9:FrOk Tryz.prog ⟨yqm,24,yAY⟩ yk2:=(yL8).loop (sg:=yxT) ybN yxq (by decide) yLm ycf yxC (by decide) (fun _=>rfl) (fun x r _ h=>h) yN0
abbrev yln:List Par:= [.pt tU .fz,.rd tI]
abbrev yqS:List OT:= [⟨false,tA,(.pr .fz (.pr (.pr .fz .fz) (.pr (.ow (.pr (.ow .fz) (.pr (.ow (.pr .fz .fz)) (.pr .fz (.ow .fz))))) (.pr .fz (.pr .fz (.pr .fz (.pr .fz (.pr .fz (.pr (.ow (.pr .fz .fz)) (.pr .fz (.pr .fz .fz)))))))))))⟩]
def ybl (a0:dU) (a1:Int):Option (ResD yqS×MutD yln) :=
  bnd (yb a0 2) fun r1 =>
  bnd (yfM r1.2.1) fun r2 =>
  let r3:=ylE (IntKind.i64.wrap (1+r1.1.1)) r2.1.1
  bnd (yb r2.2.1 (IntKind.i64.wrap (a1+1))) fun r4 =>
  zjw (yrm ((((),()),((),()),((),()),(r4.1.1,()),()),((0,0,0,(),0,0,0,0,0,(),0,false,false,()),(r3.1,r3.2.1.1,r3.2.1.2,(),r3.2.2.2.1,r3.2.2.2.2.1,r3.2.2.2.2.2.1,r3.2.2.2.2.2.2.1,r3.2.2.2.2.2.2.2.1,(),r3.2.2.2.2.2.2.2.2.2.1,r3.2.2.2.2.2.2.2.2.2.2.1,r3.2.2.2.2.2.2.2.2.2.2.2,()),(r4.2.1.1,r4.2.1.2.1,r4.2.1.2.2,()),()),(r3.2.2.1,r3.2.2.2.2.2.2.2.2.1,()))) (fun y6 =>
    some (((y6.2.1.2.1.1,(y6.2.1.2.1.2.1,y6.2.1.2.1.2.2.1),y6.2.2.1,y6.2.1.2.1.2.2.2.2.1,y6.2.1.2.1.2.2.2.2.2.1,y6.2.1.2.1.2.2.2.2.2.2.1,y6.2.1.2.1.2.2.2.2.2.2.2.1,y6.2.1.2.1.2.2.2.2.2.2.2.2.1,y6.2.2.2.1,y6.2.1.2.1.2.2.2.2.2.2.2.2.2.2.1,y6.2.1.2.1.2.2.2.2.2.2.2.2.2.2.2.1,y6.2.1.2.1.2.2.2.2.2.2.2.2.2.2.2.2.1),()),((y6.2.1.2.2.1.1,y6.2.1.2.2.1.2.1,y6.2.1.2.2.1.2.2.1),()))) (fun y6 =>
    none)
theorem yVQ (x:InD yln):zjH ⟨yqm,24,yAY⟩ Tryz.f113.results.toList yk2 yln yqS x=ybl x.1 x.2.1:=by kernel_rfl
theorem yRk:ConOk Tryz.prog 113 ⟨yln,yqS,fun x=>ybl x.1 x.2.1⟩:=zkh (yL9) Tryz.func113 (by kernel_rfl) (by kernel_rfl) Tryz.ntmps113.symm (by decide) (fun x r h=>(yVQ x).trans h)
def ytD:Con:=⟨yln,yqS,fun x=>ybl x.1 x.2.1⟩
theorem yEq:ConOk Tryz.prog 113 ytD:=yRk
theorem yUZ {P:Int→dA→Prop} {K:Int} (hP: ∀ k a,P k a→coreOk a∧Keep a) (hT: ∀ k a b,P k a→Turned a b→k+16≤K→P (k+16) b): ∀ (n:Nat) (k:Int) (a:dA) (u:dU) (fuel:Nat),n < fuel→n≤1000→yI u→P k a→k+16 * n≤K →
    ∃ (a':dA) (u':dU),zr ycf fuel (ypF n yoV a u)=some (.inl (yJV yoV a' u'))∧yI u'∧P (k+16 * n) a'
  | 0,k,a,u,fuel+1,_,_,hu,h,_=>⟨a,u,by simp only [zr,ycf,ypF,ypU]; rfl,hu,by rw [show k+16 * ((0:Nat):Int)=k by omega]; exact h⟩
  | n+1,k,a,u,fuel+1,hf,hn,hu,h,hk=>by
    obtain ⟨hc,hkp⟩:=hP k a h
    obtain ⟨u1,a1,e1,d1,h1⟩:=y0b u a hu hc hkp
    obtain ⟨a',u',e2,d2,h2⟩:=yUZ hP hT n (k+16) a1 u1 fuel (by omega) (by omega) d1 (hT k a a1 h h1 (by omega)) (by omega)
    refine ⟨a',u',?_,d2,by rw [show k+16 * ((n+1:Nat):Int)=k+16+16 * (n:Int) by omega]; exact h2⟩
    rw [← e2,zr]
    simp only [ycf,ypF,ypU,zjI (show (0:Int) < ((n+1:Nat):Int) by omega),cond_true,zkV,e1,zky,show ((n+1:Nat):Int) - 1=(n:Int) by omega,wr (show -9223372036854775808≤(n:Int) by omega) (by omega)]
theorem yOX {P:Int→dA→Prop} {K:Int} (hP: ∀ k a,P k a→coreOk a∧Keep a) (hT: ∀ k a b,P k a→Turned a b→k+16≤K→P (k+16) b) (h0P: ∀ id g,ye g=true→1≤id→id≤60000→P 0 (ylv id g))
    (u:dU) (most:Int) (h:yI u) (h0:0≤most) (h1:most≤1000) (hm:16 * most≤K): ∃ (a:dA) (u':dU) (k:Int),ybl u most=some ((a,()),(u',()))∧P k a∧k≤16 * most∧yI u':=by
  obtain ⟨r1,u1,e1,q1,d1⟩:=yB u 2 h
  obtain ⟨g,u2,e2,q2,d2⟩:=yZG u1 d1
  obtain ⟨r3,u3,e3,q3,d3⟩:=yB u2 (most+1) d2
  have:=q1.1; have:=q1.2.1 (by omega); have:=q3.1; have:=q3.2.1 (by omega)
  have hn:=h0P (1+r1) g q2 (by omega) (by omega)
  obtain ⟨a',u',e4,d4,h4⟩:=yUZ hP hT r3.toNat 0 (ylv (1+r1) g) u3 18446744073709551616 (by omega) (by omega) d3 hn (by omega)
  rw [show ((r3.toNat:Nat):Int)=r3 by omega]at e4
  unfold ybl
  simp only [e1,e2,zky,wr (show -9223372036854775808≤most+1 by omega) (by omega),e3,wr (show -9223372036854775808≤1+r1 by omega) (by omega),ylE]
  refine ⟨a',u',_,?_,h4,by omega,d4⟩
  exact (congrArg (fun z=>zjw z _ _) (show yrm (yJ5 r3 yoV (ylv (1+r1) g) u3)=_ from e4)).trans rfl
theorem yY7 (u:dU) (most:Int) (h:yI u) (h0:0≤most) (h1:most≤1000): ∃ (a:dA) (u':dU),ybl u most=some ((a,()),(u',()))∧Wk 16000 a∧yI u':=by
  obtain ⟨a,u',k,e,q,hk,d⟩:=yOX (P:=fun k a=>Wk k a∧k≤16000) (K:=16000) (fun k a h=>⟨h.1.1,h.1.2.1⟩) (fun k a b h ht hk=>⟨ybw (yVg h.1 ht (by omega)) (by omega),by omega⟩) (fun id g h1 h2 h3=>⟨yX5 h1 h2 h3,by omega⟩) u most h h0 h1 (by omega)
  exact ⟨a,u',e,ybw q.1 (by omega),d⟩
end
section
def yCR:Code:=(Tryz.f26.body).getD .skip
def yDA:Env:=zki TT [(94,yfA),(96,yez),(113,ytD)] []
theorem yJw:FrOk Tryz.prog ⟨yDA,11,fun _=>none⟩ yCR:=zkp yc yd ⟨ylP,yka,yEq,trivial⟩
def yK2:Nat→Option Seg:=fun _=>none
abbrev yje:List Par:= [.kp tYs .fz]
abbrev yoE:List OT:= [⟨false,tA,(.pr .fz (.pr (.pr .fz .fz) (.pr (.ow (.pr (.ow .fz) (.pr (.ow (.pr .fz .fz)) (.pr .fz (.ow .fz))))) (.pr .fz (.pr .fz (.pr .fz (.pr .fz (.pr .fz (.pr (.ow (.pr .fz .fz)) (.pr .fz (.pr .fz .fz)))))))))))⟩]
def ydF (a0:List Int):Option (ResD yoE×MutD yje) :=
  let r1:=ybz a0
  let r2:=yac a0 24
  bnd (ybl r1 (IntKind.i64.wrap (6+r2))) fun r3 =>
  some ((r3.1.1,()),())
theorem ySL (x:InD yje):zjH ⟨yDA,11,yK2⟩ Tryz.f26.results.toList yCR yje yoE x=ydF x.1:=by kernel_rfl
theorem yNq:ConOk Tryz.prog 26 ⟨yje,yoE,fun x=>ydF x.1⟩:=zkh (yJw) Tryz.func26 (by kernel_rfl) (by kernel_rfl) Tryz.ntmps26.symm (by decide) (fun x r h=>(ySL x).trans h)
def yyU:Con:=⟨yje,yoE,fun x=>ydF x.1⟩
theorem yRB:ConOk Tryz.prog 26 yyU:=yNq
theorem yYN (a0:List Int) (hb:a0.length≤140737488355328): ∃ (a:dA) (V:Int→Int→Int),ydF a0=some ((a,()),())∧Wk 480 a∧Ix 480 V a:=by
  obtain ⟨h1,h2⟩:=yD7 a0 24 (by omega) hb
  obtain ⟨a,u',k,e,⟨q1,V,q2⟩,hk,d⟩:=yOX (P:=fun k a=>Wk k a∧ ∃ V,Ix k V a) (K:=480) (fun k a h=>⟨h.1.1,h.1.2.1⟩)
    (fun k a b h ht hk=>by
      obtain ⟨hw,V,hi⟩:=h
      have hw':=yVg hw ht (by omega)
      exact ⟨ybw hw' (by omega),yZg hi ht (by omega) hw'.2.2.1.1⟩) (fun id g g1 g2 g3=>⟨yX5 g1 g2 g3,_,y0F g1 g2 g3⟩) _ (6+yac a0 24) (yHw a0 hb) (by omega) (by omega) (by omega)
  refine ⟨a,V,?_,ybw q1 (by omega),ydD q2 (by omega)⟩
  unfold ydF
  simp only [wr (show -9223372036854775808≤6+yac a0 24 by omega) (by omega),e,zky]
end
section
def yG1:Code:=(Tryz.f217.body).getD .skip
def yHi:Env:=zki TT [(150,yC)] []
theorem yPX:FrOk Tryz.prog ⟨yHi,10,fun _=>none⟩ yG1:=zkp yc yd ⟨yM,trivial⟩
def ySl:Nat→Option Seg:=fun _=>none
abbrev ynM:List Par:= [.pt tU .fz]
abbrev yto:List OT:= [⟨false,tG,(.pr .fz .fz)⟩]
def yfL (a0:dU):Option (ResD yto×MutD ynM) :=
  bnd (yb a0 3) fun r1 =>
  bnd (yb r1.2.1 8) fun r2 =>
  some ((((IntKind.i64.wrap (3+r1.1.1)),(IntKind.i64.wrap (1+r2.1.1))),()),(r2.2.1,()))
theorem yXj (x:InD ynM):zjH ⟨yHi,10,ySl⟩ Tryz.f217.results.toList yG1 ynM yto x=yfL x.1:=by kernel_rfl
theorem yT8:ConOk Tryz.prog 217 ⟨ynM,yto,fun x=>yfL x.1⟩:=zkh (yPX) Tryz.func217 (by kernel_rfl) (by kernel_rfl) Tryz.ntmps217.symm (by decide) (fun x r h=>(yXj x).trans h)
def yD1:Con:=⟨ynM,yto,fun x=>yfL x.1⟩
theorem yWC:ConOk Tryz.prog 217 yD1:=yT8
theorem y0B (u:List Int×Int×Int) (h:yI u): ∃ (g:Int×Int) (u':List Int×Int×Int),yfL u=some ((g,()),(u',()))∧ye g=true∧yI u':=by
  unfold yfL
  obtain ⟨r1,u1,e1,q1,d1⟩:=yB u 3 h
  obtain ⟨r2,u2,e2,q2,d2⟩:=yB u1 8 d1
  simp only [e1,e2,zky]
  refine ⟨_,_,rfl,?_,d2⟩
  have:=q1.2.1 (by omega); have:=q2.2.1 (by omega); have:=q1.1; have:=q2.1
  rw [wr (by omega) (by omega),wr (by omega) (by omega)]
  exact yg.2 ⟨⟨by show 3≤3+r1; omega,by show 3+r1≤5; omega⟩,by show 1≤1+r2; omega,by show 1+r2≤8; omega⟩
end
section
def yG0:Code:=(Tryz.f125.body).getD .skip
def yHh:Env:=zki TT [(124,yfz),(150,yC),(217,yD1)] []
theorem yPW:FrOk Tryz.prog ⟨yHh,21,fun _=>none⟩ yG0:=zkp yc yd ⟨ylO,yM,yWC,trivial⟩
def ySk:Nat→Option Seg:=fun _=>none
abbrev ynL:List Par:= [.pt tU .fz]
abbrev ytn:List OT:= [⟨false,tG,(.pr .fz .fz)⟩]
def yfK (a0:dU):Option (ResD ytn×MutD ynL) :=
  bnd (yfL a0) fun r1 =>
  bnd (yb r1.2.1 8) fun r2 =>
  bif (r2.1.1==0) then
    bnd (yz r2.2.1 ([0,2,6,(-1)]:List Int)) fun r3 =>
    some (((r3.1.1,r1.1.1.2),()),(r3.2.1,()))
  else
    bif (r2.1.1==1) then
      bnd (yz r2.2.1 ([0,9,(-1)]:List Int)) fun r4 =>
      some (((r1.1.1.1,r4.1.1),()),(r4.2.1,()))
    else
      some ((r1.1.1,()),(r2.2.1,()))
theorem yXi (x:InD ynL):zjH ⟨yHh,21,ySk⟩ Tryz.f125.results.toList yG0 ynL ytn x=yfK x.1:=by kernel_rfl
theorem yT7:ConOk Tryz.prog 125 ⟨ynL,ytn,fun x=>yfK x.1⟩:=zkh (yPW) Tryz.func125 (by kernel_rfl) (by kernel_rfl) Tryz.ntmps125.symm (by decide) (fun x r h=>(yXi x).trans h)
def yD0:Con:=⟨ynL,ytn,fun x=>yfK x.1⟩
theorem yWB:ConOk Tryz.prog 125 yD0:=yT7
theorem yZF (u:dU) (h:yI u): ∃ (g:dG) (u':dU),yfK u=some ((g,()),(u',()))∧yI u':=by
  unfold yfK
  obtain ⟨g,u1,e1,_,d1⟩:=y0B u h
  obtain ⟨r,u2,e2,_,d2⟩:=yB u1 8 d1
  simp only [e1,e2,zky]
  cases (r==0)
  · cases (r==1)
    · exact ⟨_,_,rfl,d2⟩
    · obtain ⟨r3,u3,e3,_,d3⟩:=ynV u2 [0,9,(-1)] d2 (by simp)
      simp only [cond_true,cond_false,e3,zky]
      exact ⟨_,_,rfl,d3⟩
  · obtain ⟨r3,u3,e3,_,d3⟩:=ynV u2 [0,2,6,(-1)] d2 (by simp)
    simp only [cond_true,e3,zky]
    exact ⟨_,_,rfl,d3⟩
end
section
def ynp:Code:=(Tryz.f213.body).getD .skip
def ysE:Env:=zki TT [(115,ymS),(150,yC)] []
theorem yPQ:FrOk Tryz.prog ⟨ysE,18,fun _=>none⟩ ynp:=zkp yc yd ⟨yu6,yM,trivial⟩
def yDk:Nat→Option Seg:=fun _=>none
def ycv:Shape:=⟨[(0,false,[.ptr 1000000000 0]),(3,false,[.at 800000000]),(4,false,[.int .i64])],[(1000000000,[.fz tY,.int .i64,.int .i64])],[(800000000,tI,.fz)]⟩
def yhF:Shape:=⟨[(0,false,[.ptr 1000000000 0]),(3,false,[.at 800000000]),(4,false,[.int .i64])],[(1000000000,[.fz tY,.int .i64,.int .i64])],[(800000000,tI,.fz)]⟩
def yho:Shape:=⟨[(3,false,[.at 800000000])],[(1000000000,[.fz tY,.int .i64,.int .i64])],[(800000000,tI,.fz)]⟩
def ymK:Shape:=⟨[],[],[]⟩
abbrev yrL (v0:Int) (v1:dU) (v2:List Int):(ycv).X:=((((),()),((),()),(v0,()),()),((v1.1,v1.2.1,v1.2.2,()),()),(v2,()))
abbrev yMI (v0:Int) (v1:dU) (v2:List Int):(yhF).X:=((((),()),((),()),(v0,()),()),((v1.1,v1.2.1,v1.2.2,()),()),(v2,()))
abbrev yMv (v0:dU) (v1:List Int):(yho).X:=((((),()),()),((v0.1,v0.2.1,v0.2.2,()),()),(v1,()))
def yr7 (v0:Int) (v1:List Int) (v2:Int) (v3:Int) (v4:List Int):Option ((ycv).X ⊕ ((yho).X ⊕ (ymK).X)) :=
  bif (ltb 0 v0) then
    bnd (yN (v1,v2,v3)) fun r3 =>
    bif (zj4 v4.length ([r3.1.1]:List Int).length 8) then
      some (.inl ((((),()),((),()),((IntKind.i64.wrap (v0 - 1)),()),()),((r3.2.1.1,r3.2.1.2.1,r3.2.1.2.2,()),()),((v4++([r3.1.1]:List Int)),())))
    else none
  else
    some (.inr (.inl ((((),()),()),((v1,v2,v3,()),()),(v4,()))))
def yc1 (x:(ycv).X):=yr7 x.1.2.2.1.1 x.2.1.1.1 x.2.1.1.2.1 x.2.1.1.2.2.1 x.2.2.1
def yze (x:(yhF).X):(ycv).X:=((((),()),((),()),(x.1.2.2.1.1,()),()),((x.2.1.1.1,x.2.1.1.2.1,x.2.1.1.2.2.1,()),()),(x.2.2.1,()))
def yBy:Code:=(zdI ynp 64 116).getD .skip
theorem yOK:zdI ynp 64 29=some (.block 0 (.loop yBy)):=by kernel_rfl
theorem yRZ (x:(ycv).X):zg7 ⟨ysE,18,yDk⟩ 0 yBy 116 ycv yho ymK x=yc1 x:=by kernel_rfl
def yzw (x:(yhF).X):Nat:=(fun (u0:Int) (u1:List Int) (u2:Int) (u3:Int) (u4:List Int)=>18446744073709551616) x.1.2.2.1.1 x.2.1.1.1 x.2.1.1.2.1 x.2.1.1.2.2.1 x.2.2.1
def ysV (x:(yhF).X):Option ((yho).X ⊕ (ymK).X):=zr yc1 (yzw x) (yze x)
def yAh:Seg:=⟨yhF,yho,ymK,ysV⟩
def yDl:Nat→Option Seg:=fun q=>bif Nat.beq q 29 then some yAh else yDk q
theorem yPR:FrOk Tryz.prog ⟨ysE,18,yDl⟩ ynp:=(yPQ).loop (sg:=yAh) ycv yze (by decide) yOK yc1 yzw (by decide) (fun _=>rfl) (fun x r _ h=>h) yRZ
abbrev ynJ:List Par:= [.pt tU .fz]
abbrev ytk:List OT:= [⟨false,tL,(.ow .fz)⟩]
def yb7 (a0:dU):Option (ResD ytk×MutD ynJ) :=
  bnd (yb a0 5) fun r1 =>
  zjw (ysV ((((),()),((),()),(r1.1.1,()),()),((r1.2.1.1,r1.2.1.2.1,r1.2.1.2.2,()),()),(([]:List Int),()))) (fun y3 =>
    some ((y3.2.2.1,()),((y3.2.1.1.1,y3.2.1.1.2.1,y3.2.1.1.2.2.1),()))) (fun y3 =>
    none)
theorem yXf (x:InD ynJ):zjH ⟨ysE,18,yDl⟩ Tryz.f213.results.toList ynp ynJ ytk x=yb7 x.1:=by kernel_rfl
theorem yT4:ConOk Tryz.prog 213 ⟨ynJ,ytk,fun x=>yb7 x.1⟩:=zkh (yPR) Tryz.func213 (by kernel_rfl) (by kernel_rfl) Tryz.ntmps213.symm (by decide) (fun x r h=>(yXf x).trans h)
def yoQ:Con:=⟨ynJ,ytk,fun x=>yb7 x.1⟩
theorem ywC:ConOk Tryz.prog 213 yoQ:=yT4
theorem yUW: ∀ (n:Nat) (u:dU) (l:List Int) (fuel:Nat),n < fuel→yI u→n+l.length≤1000 →
    ∃ (u':dU) (l':List Int),zr yc1 fuel (yrL n u l)=some (.inl (yMv u' l'))∧yI u'∧l'.length=n+l.length
  | 0,u,l,fuel+1,_,hu,_=>⟨u,l,by simp only [zr,yc1,yrL,yr7]; rfl,hu,by omega⟩
  | n+1,u,l,fuel+1,hf,hu,hl=>by
    obtain ⟨x,u1,e1,_,d1⟩:=ySA u hu
    obtain ⟨u',l',e2,d2,h2⟩:=yUW n u1 (l++ [x]) fuel (by omega) d1 (by rw [List.length_append]; simp only [List.length_cons,List.length_nil]; omega)
    refine ⟨u',l',?_,d2,by rw [h2,List.length_append]; simp only [List.length_cons,List.length_nil]; omega⟩
    rw [← e2,zr]
    simp only [yc1,yrL,yr7,zjI (show (0:Int) < ((n+1:Nat):Int) by omega),cond_true,zkV,e1,zky,show ((n+1:Nat):Int) - 1=(n:Int) by omega,wr (show -9223372036854775808≤(n:Int) by omega) (by omega),
      zkw.2 (show (l.length+ [x].length) * 8≤140737488355328 by simp only [List.length_cons,List.length_nil]; omega)]
theorem yLr (u:dU) (h:yI u): ∃ (l:List Int) (u':dU),yb7 u=some ((l,()),(u',()))∧l.length≤4∧yI u':=by
  obtain ⟨r1,u1,e1,q1,d1⟩:=yB u 5 h
  have:=q1.1; have:=q1.2.1 (by omega)
  obtain ⟨u',l',e2,d2,h2⟩:=yUW r1.toNat u1 [] 18446744073709551616 (by omega) d1 (by simp only [List.length_nil]; omega)
  rw [show ((r1.toNat:Nat):Int)=r1 by omega]at e2
  unfold yb7
  simp only [e1,zky]
  refine ⟨l',u',?_,by rw [h2]; simp only [List.length_nil]; omega,d2⟩
  exact (congrArg (fun z=>zjw z _ _) (show ysV (yMI r1 u1 [])=_ from e2)).trans rfl
end
end
end Go.Tf
