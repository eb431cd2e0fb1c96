/- Functions of the program, and what they come to. -/
import Derived.Test.YtgmadfpnljibhaaGreatScrubsF11
namespace Go.Tf
noncomputable section
open Go.Proofs
set_option synthInstance.maxHeartbeats 400000
set_option synthInstance.maxSize 10000
set_option linter.unusedVariables false
set_option linter.unusedSimpArgs false
set_option maxRecDepth 100000
section
def yGY:Code:=(Tryz.f212.body).getD .skip
def yHf:Env:=zki TT [(124,yfz),(150,yC),(213,yoQ)] []
theorem yPM:FrOk Tryz.prog ⟨yHf,23,fun _=>none⟩ yGY:=zkp yc yd ⟨ylO,yM,ywC,trivial⟩
def ySi:Nat→Option Seg:=fun _=>none
abbrev ynH:List Par:= [.pt tU .fz]
abbrev yth:List OT:= [⟨false,tL,(.ow .fz)⟩]
def yb6 (a0:dU):Option (ResD yth×MutD ynH) :=
  bnd (yb7 a0) fun r1 =>
  bnd (yb r1.2.1 10) fun r2 =>
  bif (r2.1.1==0) then
    bnd (yz r2.2.1 ([(-1),65536]:List Int)) fun r3 =>
    bif (zj4 r1.1.1.length ([r3.1.1]:List Int).length 8) then
      some (((r1.1.1++([r3.1.1]:List Int)),()),(r3.2.1,()))
    else none
  else
    bif (r2.1.1==1) then
      bnd (yb r2.2.1 2) fun r4 =>
      bif (zkc (IntKind.i64.wrap (12+r4.1.1)) 8) then
        some (((List.replicate ((IntKind.i64.wrap (12+r4.1.1))).toNat (0:Int)),()),(r4.2.1,()))
      else none
    else
      some ((r1.1.1,()),(r2.2.1,()))
theorem yXc (x:InD ynH):zjH ⟨yHf,23,ySi⟩ Tryz.f212.results.toList yGY ynH yth x=yb6 x.1:=by kernel_rfl
theorem yT1:ConOk Tryz.prog 212 ⟨ynH,yth,fun x=>yb6 x.1⟩:=zkh (yPM) Tryz.func212 (by kernel_rfl) (by kernel_rfl) Tryz.ntmps212.symm (by decide) (fun x r h=>(yXc x).trans h)
def yuY:Con:=⟨ynH,yth,fun x=>yb6 x.1⟩
theorem yGm:ConOk Tryz.prog 212 yuY:=yT1
theorem yLq (u:dU) (h:yI u): ∃ (l:List Int) (u':dU),yb6 u=some ((l,()),(u',()))∧l.length≤14∧yI u':=by
  unfold yb6
  obtain ⟨l,u1,e1,q1,d1⟩:=yLr u h
  obtain ⟨r,u2,e2,q2,d2⟩:=yB u1 10 d1
  simp only [e1,e2,zky]
  cases (r==0)
  · cases (r==1)
    · exact ⟨_,_,rfl,by omega,d2⟩
    · obtain ⟨r3,u3,e3,q3,d3⟩:=yB u2 2 d2
      have:=q3.1; have:=q3.2.1 (by omega)
      have hm:zkc (IntKind.i64.wrap (12+r3)) 8=true:=by rw [wr (by omega) (by omega),zkH]; omega
      simp only [cond_true,cond_false,e3,zky,hm]
      exact ⟨_,_,rfl,by simp only [List.length_replicate]; rw [wr (by omega) (by omega)]; omega,d3⟩
  · obtain ⟨r3,u3,e3,q3,d3⟩:=ynV u2 [(-1),65536] d2 (by simp)
    simp only [cond_true,e3,zky]
    rw [zkw.2 (show (l.length+ [r3].length) * 8≤140737488355328 by simp only [List.length_cons,List.length_nil]; omega)]
    exact ⟨_,_,rfl,by simp only [List.length_append,List.length_cons,List.length_nil]; omega,d3⟩
end
section
def yk0:Code:=(Tryz.f266.body).getD .skip
def yqk:Env:=zki TT [(138,ymR),(150,yC),(213,yoQ),(264,ypw),(265,ypu),(286,ypr)] []
theorem yL4:FrOk Tryz.prog ⟨yqk,43,fun _=>none⟩ yk0:=zkp yc yd ⟨yu5,yM,ywC,yzV,yzT,yzQ,trivial⟩
def yAT:Nat→Option Seg:=fun _=>none
def ybL:Shape:=⟨[(0,false,[.ptr 1000000000 0]),(2,false,[.ptr 0 0]),(3,false,[.ptr 4352 0]),(4,false,[.int .i64])],[(0,[.nil,.nil,.bool,.nil]),(4352,[.at 800000000,.at 800000001,.bool,.at 800000002]),(1000000000,[.fz tY,.int .i64,.int .i64])],[(800000000,tL,.fz),(800000001,tW,(.pr .fz .fz)),(800000002,tI,.fz)]⟩
def yge:Shape:=⟨[(0,false,[.ptr 1000000000 0]),(2,false,[.ptr 0 0]),(3,false,[.ptr 4352 0]),(4,false,[.int .i64])],[(0,[.nil,.nil,.bool,.nil]),(4352,[.at 800000000,.at 800000001,.bool,.at 800000002]),(1000000000,[.fz tY,.int .i64,.int .i64])],[(800000000,tL,.fz),(800000001,tW,(.pr .fz .fz)),(800000002,tI,.fz)]⟩
def yf2:Shape:=⟨[(2,false,[.ptr 0 0]),(3,false,[.ptr 4352 0])],[(0,[.nil,.nil,.bool,.nil]),(4352,[.at 800000000,.at 800000001,.bool,.at 800000002]),(1000000000,[.fz tY,.int .i64,.int .i64])],[(800000000,tL,.fz),(800000001,tW,(.pr .fz .fz)),(800000002,tI,.fz)]⟩
def ykt:Shape:=⟨[],[],[]⟩
abbrev yfb (v0:Int) (v1:dM) (v2:dM) (v3:dU):(ybL).X:=((((),()),((),()),((),()),(v0,()),()),(((),(),v1.2.2.1,(),()),((),(),v2.2.2.1,(),()),(v3.1,v3.2.1,v3.2.2,()),()),(v2.1,v2.2.1,v2.2.2.2,()))
abbrev yJ4 (v0:Int) (v1:dM) (v2:dM) (v3:dU):(yge).X:=((((),()),((),()),((),()),(v0,()),()),(((),(),v1.2.2.1,(),()),((),(),v2.2.2.1,(),()),(v3.1,v3.2.1,v3.2.2,()),()),(v2.1,v2.2.1,v2.2.2.2,()))
abbrev yJU (v0:dM) (v1:dM) (v2:dU):(yf2).X:=((((),()),((),()),()),(((),(),v0.2.2.1,(),()),((),(),v1.2.2.1,(),()),(v2.1,v2.2.1,v2.2.2,()),()),(v1.1,v1.2.1,v1.2.2.2,()))
def ypT (v0:Int) (v1:Bool) (v2:Bool) (v3:List Int) (v4:Int) (v5:Int) (v6:List (List Int)) (v7:List dW) (v8:List Int):Option ((ybL).X ⊕ ((yf2).X ⊕ (ykt).X)) :=
  bif (ltb 0 v0) then
    bnd (yb (v3,v4,v5) 6) fun r11 =>
    bif (r11.1.1==0) then
      let r12:=ycH (v6,v7,v2,v8)
      some (.inl ((((),()),((),()),((),()),((IntKind.i64.wrap (v0 - 1)),()),()),(((),(),v1,(),()),((),(),r12.2.2.1,(),()),(r11.2.1.1,r11.2.1.2.1,r11.2.1.2.2,()),()),(r12.1,r12.2.1,r12.2.2.2,())))
    else
      bif (r11.1.1==1) then
        bnd (yb r11.2.1 (v6.length:Int)) fun r13 =>
        let r14:=yeA (v6,v7,v2,v8) r13.1.1
        some (.inl ((((),()),((),()),((),()),((IntKind.i64.wrap (v0 - 1)),()),()),(((),(),v1,(),()),((),(),r14.2.2.1,(),()),(r13.2.1.1,r13.2.1.2.1,r13.2.1.2.2,()),()),(r14.1,r14.2.1,r14.2.2.2,())))
      else
        bnd (yb r11.2.1 (v6.length:Int)) fun r15 =>
        bnd (yb7 r15.2.1) fun r16 =>
        let r17:=ycK (v6,v7,v2,v8) r15.1.1 r16.1.1
        some (.inl ((((),()),((),()),((),()),((IntKind.i64.wrap (v0 - 1)),()),()),(((),(),v1,(),()),((),(),r17.1.2.2.1,(),()),(r16.2.1.1,r16.2.1.2.1,r16.2.1.2.2,()),()),(r17.1.1,r17.1.2.1,r17.1.2.2.2,())))
  else
    some (.inr (.inl ((((),()),((),()),()),(((),(),v1,(),()),((),(),v2,(),()),(v3,v4,v5,()),()),(v6,v7,v8,()))))
def ya2 (x:(ybL).X):=ypT x.1.2.2.2.1.1 x.2.1.1.2.2.1 x.2.1.2.1.2.2.1 x.2.1.2.2.1.1 x.2.1.2.2.1.2.1 x.2.1.2.2.1.2.2.1 x.2.2.1 x.2.2.2.1 x.2.2.2.2.1
def yxo (x:(yge).X):(ybL).X:=((((),()),((),()),((),()),(x.1.2.2.2.1.1,()),()),(((),(),x.2.1.1.2.2.1,(),()),((),(),x.2.1.2.1.2.2.1,(),()),(x.2.1.2.2.1.1,x.2.1.2.2.1.2.1,x.2.1.2.2.1.2.2.1,()),()),(x.2.2.1,x.2.2.2.1,x.2.2.2.2.1,()))
def yyI:Code:=(zdI yk0 64 116).getD .skip
theorem yLk:zdI yk0 64 29=some (.block 0 (.loop yyI)):=by kernel_rfl
theorem yNY (x:(ybL).X):zg7 ⟨yqk,43,yAT⟩ 0 yyI 116 ybL yf2 ykt x=ya2 x:=by kernel_rfl
def yxA (x:(yge).X):Nat:=(fun (u0:Int) (u1:Bool) (u2:Bool) (u3:List Int) (u4:Int) (u5:Int) (u6:List (List Int)) (u7:List dW) (u8:List Int)=>18446744073709551616) x.1.2.2.2.1.1 x.2.1.1.2.2.1 x.2.1.2.1.2.2.1 x.2.1.2.2.1.1 x.2.1.2.2.1.2.1 x.2.1.2.2.1.2.2.1 x.2.2.1 x.2.2.2.1 x.2.2.2.2.1
def yrl (x:(yge).X):Option ((yf2).X ⊕ (ykt).X):=zr ya2 (yxA x) (yxo x)
def yxR:Seg:=⟨yge,yf2,ykt,yrl⟩
def yAU:Nat→Option Seg:=fun q=>bif Nat.beq q 29 then some yxR else yAT q
theorem yL5:FrOk Tryz.prog ⟨yqk,43,yAU⟩ yk0:=(yL4).loop (sg:=yxR) ybL yxo (by decide) yLk ya2 yxA (by decide) (fun _=>rfl) (fun x r _ h=>h) yNY
abbrev ylm:List Par:= [.pt tU .fz]
abbrev yqR:List OT:= [⟨false,tM,(.pr (.ow .fz) (.pr (.ow (.pr .fz .fz)) (.pr .fz (.ow .fz))))⟩]
def yeD (a0:dU):Option (ResD yqR×MutD ylm) :=
  bnd (yb a0 5) fun r1 =>
  let r2:=ya3 (IntKind.i64.wrap (3+r1.1.1))
  bnd (yb r1.2.1 8) fun r3 =>
  zjw (yrl ((((),()),((),()),((),()),(r3.1.1,()),()),(((),(),false,(),()),((),(),r2.2.2.1,(),()),(r3.2.1.1,r3.2.1.2.1,r3.2.1.2.2,()),()),(r2.1,r2.2.1,r2.2.2.2,()))) (fun y17 =>
    some (((y17.2.2.1,y17.2.2.2.1,y17.2.1.2.1.2.2.1,y17.2.2.2.2.1),()),((y17.2.1.2.2.1.1,y17.2.1.2.2.1.2.1,y17.2.1.2.2.1.2.2.1),()))) (fun y17 =>
    none)
theorem yVO (x:InD ylm):zjH ⟨yqk,43,yAU⟩ Tryz.f266.results.toList yk0 ylm yqR x=yeD x.1:=by kernel_rfl
theorem yRi:ConOk Tryz.prog 266 ⟨ylm,yqR,fun x=>yeD x.1⟩:=zkh (yL5) Tryz.func266 (by kernel_rfl) (by kernel_rfl) Tryz.ntmps266.symm (by decide) (fun x r h=>(yVO x).trans h)
def yBT:Con:=⟨ylm,yqR,fun x=>yeD x.1⟩
theorem yUu:ConOk Tryz.prog 266 yBT:=yRi
theorem yUY: ∀ (n:Nat) (m:dM) (u:dU) (fuel:Nat),n < fuel→n≤1000→yI u→ym m=true →
    ∃ (m':dM) (u':dU),zr ya2 fuel (yfb n noMem m u)=some (.inl (yJU noMem m' u'))∧yI u'∧ym m'=true
  | 0,m,u,fuel+1,_,_,hu,h=>⟨m,u,by simp only [zr,ya2,yfb,ypT]; rfl,hu,h⟩
  | n+1,m,u,fuel+1,hf,hn,hu,h=>by
    have hlen:=(yW h).2.2.2
    have key: ∃ (m1:dM) (u1:dU),ya2 (yfb ((n+1:Nat):Int) noMem m u)=some (.inl (yfb (n:Int) noMem m1 u1))∧yI u1∧ym m1=true:=by
      obtain ⟨r,u1,e1,_,d1⟩:=yB u 6 hu
      simp only [ya2,yfb,ypT,zjI (show (0:Int) < ((n+1:Nat):Int) by omega),cond_true,zkV,e1,zky,show ((n+1:Nat):Int) - 1=(n:Int) by omega,wr (show -9223372036854775808≤(n:Int) by omega) (by omega)]
      cases (r==0)
      · obtain ⟨i,u2,e2,q2,d2⟩:=yB u1 (m.1.length:Int) d1
        cases (r==1)
        · obtain ⟨s,u3,e3,_,d3⟩:=yLr u2 d2
          simp only [cond_false,e2,zky,e3,ycK]
          exact ⟨(yF m i s).1,u3,rfl,d3,yFa i s h⟩
        · simp only [cond_false,cond_true,e2,zky,yeA]
          exact ⟨spoil m i,u2,rfl,d2,yN4 i h⟩
      · simp only [cond_true,ycH]
        exact ⟨yr m,u1,rfl,d1,yLv h⟩
    obtain ⟨m1,u1,e1,d1,h1⟩:=key
    obtain ⟨m',u',e2,d2,h2⟩:=yUY n m1 u1 fuel (by omega) (by omega) d1 h1
    exact ⟨m',u',by rw [← e2,zr,e1],d2,h2⟩
theorem yY6 (u:dU) (h:yI u): ∃ (m:dM) (u':dU),yeD u=some ((m,()),(u',()))∧ym m=true∧yI u':=by
  obtain ⟨r1,u1,e1,q1,d1⟩:=yB u 5 h
  obtain ⟨r3,u3,e3,q3,d3⟩:=yB u1 8 d1
  have:=q1.1; have:=q1.2.1 (by omega); have:=q3.1; have:=q3.2.1 (by omega)
  obtain ⟨m',u',e4,d4,h4⟩:=yUY r3.toNat (ya0 (3+r1)) u3 18446744073709551616 (by omega) (by omega) d3 (yCg (by omega) (by omega))
  rw [show ((r3.toNat:Nat):Int)=r3 by omega]at e4
  unfold yeD
  simp only [e1,e3,zky,wr (show -9223372036854775808≤3+r1 by omega) (by omega),ya3]
  refine ⟨m',u',?_,h4,d4⟩
  exact (congrArg (fun z=>zjw z _ _) (show yrl (yJ4 r3 noMem (ya0 (3+r1)) u3)=_ from e4)).trans rfl
end
section
def ynq:Code:=(Tryz.f211.body).getD .skip
def ysF:Env:=zki TT [(124,yfz),(150,yC),(212,yuY),(232,yru),(266,yBT)] [(25088,(.pr .fz .fz)),(53440,(.pr .fz .fz)),(61440,.fz)]
theorem yPS:FrOk Tryz.prog ⟨ysF,62,fun _=>none⟩ ynq:=zkp yc yd ⟨ylO,yM,yGm,yCl,yUu,trivial⟩
def yDm:Nat→Option Seg:=fun _=>none
def yaY:Shape:=⟨[(0,false,[.ptr 1000000000 0]),(2,false,[.ptr 0 0]),(3,false,[.ptr 4224 0])],[(0,[.nil,.nil,.bool,.nil]),(4224,[.at 800000000,.at 800000001,.bool,.at 800000002]),(1000000000,[.fz tY,.int .i64,.int .i64])],[(800000000,tL,.fz),(800000001,tW,(.pr .fz .fz)),(800000002,tI,.fz)]⟩
def yd4:Shape:=⟨[(0,false,[.ptr 1000000000 0]),(2,false,[.ptr 0 0]),(3,false,[.ptr 4224 0])],[(0,[.nil,.nil,.bool,.nil]),(4224,[.at 800000000,.at 800000001,.bool,.at 800000002]),(1000000000,[.fz tY,.int .i64,.int .i64])],[(800000000,tL,.fz),(800000001,tW,(.pr .fz .fz)),(800000002,tI,.fz)]⟩
def yd0:Shape:=⟨[(2,false,[.ptr 0 0]),(3,false,[.ptr 4224 0])],[(0,[.nil,.nil,.bool,.nil]),(4224,[.at 800000000,.at 800000001,.bool,.at 800000002]),(1000000000,[.fz tY,.int .i64,.int .i64])],[(800000000,tL,.fz),(800000001,tW,(.pr .fz .fz)),(800000002,tI,.fz)]⟩
def yh1:Shape:=⟨[],[],[]⟩
abbrev ygC (v0:dM) (v1:dM) (v2:dU):(yaY).X:=((((),()),((),()),((),()),()),(((),(),v0.2.2.1,(),()),((),(),v1.2.2.1,(),()),(v2.1,v2.2.1,v2.2.2,()),()),(v1.1,v1.2.1,v1.2.2.2,()))
abbrev yGD (v0:dM) (v1:dM) (v2:dU):(yd4).X:=((((),()),((),()),((),()),()),(((),(),v0.2.2.1,(),()),((),(),v1.2.2.1,(),()),(v2.1,v2.2.1,v2.2.2,()),()),(v1.1,v1.2.1,v1.2.2.2,()))
abbrev yGz (v0:dM) (v1:dM) (v2:dU):(yd0).X:=((((),()),((),()),()),(((),(),v0.2.2.1,(),()),((),(),v1.2.2.1,(),()),(v2.1,v2.2.1,v2.2.2,()),()),(v1.1,v1.2.1,v1.2.2.2,()))
def ygD (v0:Bool) (v1:Bool) (v2:List Int) (v3:Int) (v4:Int) (v5:List (List Int)) (v6:List dW) (v7:List Int):Option ((yaY).X ⊕ ((yd0).X ⊕ (yh1).X)) :=
  bnd (yb (v2,v3,v4) 3) fun r9 =>
  bif (ltb (v6.length:Int) (IntKind.i64.wrap (59+r9.1.1))) then
    bif (zj4 v6.length ([(0,[])]:List dW).length 32) then
      some (.inl ((((),()),((),()),((),()),()),(((),(),v0,(),()),((),(),v1,(),()),(r9.2.1.1,r9.2.1.2.1,r9.2.1.2.2,()),()),(v5,(v6++([(0,[])]:List dW)),v7,())))
    else none
  else
    some (.inr (.inl ((((),()),((),()),()),(((),(),v0,(),()),((),(),v1,(),()),(r9.2.1.1,r9.2.1.2.1,r9.2.1.2.2,()),()),(v5,v6,v7,()))))
def yau (x:(yaY).X):=ygD x.2.1.1.2.2.1 x.2.1.2.1.2.2.1 x.2.1.2.2.1.1 x.2.1.2.2.1.2.1 x.2.1.2.2.1.2.2.1 x.2.2.1 x.2.2.2.1 x.2.2.2.2.1
def yuv (x:(yd4).X):(yaY).X:=((((),()),((),()),((),()),()),(((),(),x.2.1.1.2.2.1,(),()),((),(),x.2.1.2.1.2.2.1,(),()),(x.2.1.2.2.1.1,x.2.1.2.2.1.2.1,x.2.1.2.2.1.2.2.1,()),()),(x.2.2.1,x.2.2.2.1,x.2.2.2.2.1,()))
def yvN:Code:=(zdI ynq 64 241656).getD .skip
theorem yHr:zdI ynq 64 60414=some (.block 1 (.loop yvN)):=by kernel_rfl
theorem yIC (x:(yaY).X):zg7 ⟨ysF,62,yDm⟩ 1 yvN 241656 yaY yd0 yh1 x=yau x:=by kernel_rfl
def yuA (x:(yd4).X):Nat:=(fun (u0:Bool) (u1:Bool) (u2:List Int) (u3:Int) (u4:Int) (u5:List (List Int)) (u6:List dW) (u7:List Int)=>18446744073709551616) x.2.1.1.2.2.1 x.2.1.2.1.2.2.1 x.2.1.2.2.1.1 x.2.1.2.2.1.2.1 x.2.1.2.2.1.2.2.1 x.2.2.1 x.2.2.2.1 x.2.2.2.2.1
def ynB (x:(yd4).X):Option ((yd0).X ⊕ (yh1).X):=zr yau (yuA x) (yuv x)
def yuI:Seg:=⟨yd4,yd0,yh1,ynB⟩
def yDn:Nat→Option Seg:=fun q=>bif Nat.beq q 60414 then some yuI else yDm q
theorem yPT:FrOk Tryz.prog ⟨ysF,62,yDn⟩ ynq:=(yPS).loop (sg:=yuI) yaY yuv (by decide) yHr yau yuA (by decide) (fun _=>rfl) (fun x r _ h=>h) yIC
abbrev ynK:List Par:= [.pt tU .fz]
abbrev ytl:List OT:= [⟨false,tM,(.pr (.ow .fz) (.pr (.ow (.pr .fz .fz)) (.pr .fz (.ow .fz))))⟩]
def yfJ (a0:dU):Option (ResD ytl×MutD ynK) :=
  bnd (yeD a0) fun r1 =>
  bnd (yb r1.2.1 14) fun r2 =>
  bif (r2.1.1==0) then
    bnd (yb6 r2.2.1) fun r3 =>
    bif (inb 0 r1.1.1.1.length) then
      some ((((r1.1.1.1.set (0:Int).toNat r3.1.1),r1.1.1.2),()),(r3.2.1,()))
    else none
  else
    bif (r2.1.1==1) then
      bnd (yz r2.2.1 ([(-1),0,9]:List Int)) fun r4 =>
      bnd (yb6 r4.2.1) fun r5 =>
      bif (zj4 r1.1.1.2.1.length ([(r4.1.1,r5.1.1)]:List dW).length 32) then
        some (((r1.1.1.1,(r1.1.1.2.1++([(r4.1.1,r5.1.1)]:List dW)),r1.1.1.2.2),()),(r5.2.1,()))
      else none
    else
      bif (r2.1.1==2) then
        bnd (yz r2.2.1 ([(-1),0,9]:List Int)) fun r6 =>
        bif (zj4 r1.1.1.2.2.2.length ([r6.1.1]:List Int).length 8) then
          some (((r1.1.1.1,r1.1.1.2.1,r1.1.1.2.2.1,(r1.1.1.2.2.2++([r6.1.1]:List Int))),()),(r6.2.1,()))
        else none
      else
        bif (r2.1.1==3) then
          let r7:=yjY r1.1.1
          some ((r7,()),(r2.2.1,()))
        else
          bif (r2.1.1==4) then
            zjw (ynB ((((),()),((),()),((),()),()),(((),(),false,(),()),((),(),r1.1.1.2.2.1,(),()),(r2.2.1.1,r2.2.1.2.1,r2.2.1.2.2,()),()),(r1.1.1.1,r1.1.1.2.1,r1.1.1.2.2.2,()))) (fun y9 =>
              some (((y9.2.2.1,y9.2.2.2.1,y9.2.1.2.1.2.2.1,y9.2.2.2.2.1),()),((y9.2.1.2.2.1.1,y9.2.1.2.2.1.2.1,y9.2.1.2.2.1.2.2.1),()))) (fun y9 =>
              none)
          else
            bif (r2.1.1==5) then
              some (((([]:List (List Int)),r1.1.1.2),()),(r2.2.1,()))
            else
              some ((r1.1.1,()),(r2.2.1,()))
theorem yXg (x:InD ynK):zjH ⟨ysF,62,yDn⟩ Tryz.f211.results.toList ynq ynK ytl x=yfJ x.1:=by kernel_rfl
theorem yT5:ConOk Tryz.prog 211 ⟨ynK,ytl,fun x=>yfJ x.1⟩:=zkh (yPT) Tryz.func211 (by kernel_rfl) (by kernel_rfl) Tryz.ntmps211.symm (by decide) (fun x r h=>(yXg x).trans h)
def yDZ:Con:=⟨ynK,ytl,fun x=>yfJ x.1⟩
theorem yWA:ConOk Tryz.prog 211 yDZ:=yT5
theorem yUX: ∀ (n:Nat) (m:dM) (u:dU) (fuel:Nat),n < fuel→yI u→m.2.1.length+n=62∨(n=0∧61≤m.2.1.length∧m.2.1.length≤100) →
    ∃ (m':dM) (u':dU),zr yau fuel (ygC noMem m u)=some (.inl (yGz noMem m' u'))∧yI u'∧m'.1=m.1∧m'.2.1.length≤100
  | 0,m,u,fuel+1,_,hu,hn=>by
    obtain ⟨r,u1,e1,q1,d1⟩:=yB u 3 hu
    have:=q1.1; have:=q1.2.1 (by omega)
    refine ⟨m,u1,?_,d1,rfl,by omega⟩
    rw [zr]
    simp only [yau,ygC,ygD,zkV,e1,zky,wr (show -9223372036854775808≤59+r by omega) (by omega),zkm (show 59+r≤(m.2.1.length:Int) by omega),cond_false]
  | n+1,m,u,fuel+1,hf,hu,hn=>by
    obtain ⟨r,u1,e1,q1,d1⟩:=yB u 3 hu
    have:=q1.1; have:=q1.2.1 (by omega)
    by_cases hlt:(m.2.1.length:Int) < 59+r
    · obtain ⟨m',u',e2,d2,l2⟩:=yUX n (m.1,m.2.1++ [(0,[])],m.2.2) u1 fuel (by omega) d1 (.inl (by
        show (m.2.1++ [((0:Int),([]:List Int))]).length+n=62
        rw [List.length_append]; simp only [List.length_cons,List.length_nil]; omega))
      refine ⟨m',u',?_,d2,l2⟩
      rw [← e2,zr]
      simp only [yau,ygC,ygD,zkV,e1,zky,wr (show -9223372036854775808≤59+r by omega) (by omega),zjI hlt,cond_true,zkw.2 (show (m.2.1.length+ [((0:Int),([]:List Int))].length) * 32≤140737488355328 by simp only [List.length_cons,List.length_nil]; omega)]
    · refine ⟨m,u1,?_,d1,rfl,by omega⟩
      rw [zr]
      simp only [yau,ygC,ygD,zkV,e1,zky,wr (show -9223372036854775808≤59+r by omega) (by omega),zkm (show 59+r≤(m.2.1.length:Int) by omega),cond_false]
theorem yZE (u:dU) (h:yI u): ∃ (m:dM) (u':dU),yfJ u=some ((m,()),(u',()))∧(m.1.length≤100∧m.2.1.length≤100)∧yI u':=by
  unfold yfJ
  obtain ⟨m,u1,e1,q1,d1⟩:=yY6 u h
  obtain ⟨r,u2,e2,_,d2⟩:=yB u1 14 d1
  obtain ⟨h1,h2,h3,h4,h5,h6⟩:=yW q1
  rw [ykf]at h3
  have hlen:=yDN h3.2 (lo:=0) (n:=m.1.length) h3.1 (by omega)
  simp only [e1,e2,zky]
  cases (r==0)
  · cases (r==1)
    · cases (r==2)
      · cases (r==3)
        · cases (r==4)
          · cases (r==5)
            · exact ⟨_,_,rfl,by omega,d2⟩
            · exact ⟨_,_,rfl,⟨Nat.zero_le _,by show m.2.1.length≤100; omega⟩,d2⟩
          · obtain ⟨m',u',e3,d3,l3,l4⟩:=yUX (62 - m.2.1.length) m u2 18446744073709551616 (by omega) d2 (.inl (by omega))
            simp only [cond_true,cond_false]
            refine ⟨m',u',?_,⟨by rw [l3]; omega,l4⟩,d3⟩
            exact (congrArg (fun z=>zjw z _ _) (show ynB (yGD noMem m u2)=_ from e3)).trans rfl
        · exact ⟨_,_,rfl,⟨by show m.1.length≤100; omega,Nat.zero_le _⟩,d2⟩
      · obtain ⟨x,u3,e3,_,d3⟩:=ynV u2 [(-1),0,9] d2 (by simp)
        simp only [cond_true,cond_false,e3,zky]
        rw [zkw.2 (show (m.2.2.2.length+ [x].length) * 8≤140737488355328 by simp only [List.length_cons,List.length_nil]; omega)]
        exact ⟨_,_,rfl,⟨by show m.1.length≤100; omega,by show m.2.1.length≤100; omega⟩,d3⟩
    · obtain ⟨x,u3,e3,_,d3⟩:=ynV u2 [(-1),0,9] d2 (by simp)
      obtain ⟨l,u4,e4,_,d4⟩:=yLq u3 d3
      simp only [cond_true,cond_false,e3,zky,e4]
      rw [zkw.2 (show (m.2.1.length+ [(x,l)].length) * 32≤140737488355328 by simp only [List.length_cons,List.length_nil]; omega)]
      exact ⟨_,_,rfl,⟨by show m.1.length≤100; omega,by show (m.2.1++ [(x,l)]).length≤100; rw [List.length_append]; simp only [List.length_cons,List.length_nil]; omega⟩,d4⟩
  · obtain ⟨l,u3,e3,_,d3⟩:=yLq u2 d2
    simp only [cond_true,e3,zky]
    rw [show inb 0 m.1.length=true from zkO (i:=0) (by omega)]
    exact ⟨_,_,rfl,⟨by show (m.1.set _ _).length≤100; rw [List.length_set]; omega,by show m.2.1.length≤100; omega⟩,d3⟩
end
section
def yG2:Code:=(Tryz.f114.body).getD .skip
def yHj:Env:=zki TT [(113,ytD),(124,yfz),(125,yD0),(141,ycD),(150,yC),(211,yDZ),(212,yuY),(213,yoQ)] [(61952,(.pr .fz .fz))]
theorem yPY:FrOk Tryz.prog ⟨yHj,92,fun _=>none⟩ yG2:=zkp yc yd ⟨yEq,ylO,yWB,yfH,yM,yWA,yGm,ywC,trivial⟩
def ySm:Nat→Option Seg:=fun _=>none
abbrev ynN:List Par:= [.pt tU .fz,.rd tI]
abbrev ytp:List OT:= [⟨false,tA,(.pr .fz (.pr (.pr .fz .fz) (.pr (.ow (.pr (.ow .fz) (.pr (.ow (.pr .fz .fz)) (.pr .fz (.ow .fz))))) (.pr .fz (.pr .fz (.pr .fz (.pr .fz (.pr .fz (.pr (.ow (.pr .fz .fz)) (.pr .fz (.pr .fz .fz)))))))))))⟩]
def ya6 (a0:dU) (a1:Int):Option (ResD ytp×MutD ynN) :=
  bnd (ybl a0 a1) fun r1 =>
  bnd (yb r1.2.1 (r1.1.1.2.2.1.length:Int)) fun r2 =>
  bnd (yb r2.2.1 20) fun r3 =>
  bif (r3.1.1==0) then
    bnd (yfJ r3.2.1) fun r4 =>
    bif (inb r2.1.1 r1.1.1.2.2.1.length) then
      some (((r1.1.1.1,r1.1.1.2.1,(r1.1.1.2.2.1.set (r2.1.1).toNat r4.1.1),r1.1.1.2.2.2),()),(r4.2.1,()))
    else none
  else
    bif (r3.1.1==1) then
      bnd (yz r3.2.1 ([(-2),(-1),0,5]:List Int)) fun r5 =>
      some (((r1.1.1.1,r1.1.1.2.1,r1.1.1.2.2.1,r5.1.1,r1.1.1.2.2.2.2),()),(r5.2.1,()))
    else
      bif (r3.1.1==2) then
        bnd (yz r3.2.1 ([(-1),1,9]:List Int)) fun r6 =>
        some (((r1.1.1.1,r1.1.1.2.1,r1.1.1.2.2.1,r1.1.1.2.2.2.1,r6.1.1,r1.1.1.2.2.2.2.2),()),(r6.2.1,()))
      else
        bif (r3.1.1==3) then
          bnd (yz r3.2.1 ([(-1),0,9,60000]:List Int)) fun r7 =>
          some (((r1.1.1.1,r1.1.1.2.1,r1.1.1.2.2.1,r1.1.1.2.2.2.1,r1.1.1.2.2.2.2.1,r7.1.1,r1.1.1.2.2.2.2.2.2),()),(r7.2.1,()))
        else
          bif (r3.1.1==4) then
            bnd (yz r3.2.1 ([(-1),60000,59990,60001]:List Int)) fun r8 =>
            some (((r1.1.1.1,r1.1.1.2.1,r1.1.1.2.2.1,r1.1.1.2.2.2.1,r1.1.1.2.2.2.2.1,r1.1.1.2.2.2.2.2.1,r1.1.1.2.2.2.2.2.2.1,r8.1.1,r1.1.1.2.2.2.2.2.2.2.2),()),(r8.2.1,()))
          else
            bif (r3.1.1==5) then
              bnd (yb r3.2.1 5) fun r9 =>
              bnd (yb6 r9.2.1) fun r10 =>
              bif (zj4 r1.1.1.2.2.2.2.2.2.2.2.1.length ([((IntKind.i64.wrap (r9.1.1 - 1)),r10.1.1)]:List dW).length 32) then
                some (((r1.1.1.1,r1.1.1.2.1,r1.1.1.2.2.1,r1.1.1.2.2.2.1,r1.1.1.2.2.2.2.1,r1.1.1.2.2.2.2.2.1,r1.1.1.2.2.2.2.2.2.1,r1.1.1.2.2.2.2.2.2.2.1,(r1.1.1.2.2.2.2.2.2.2.2.1++([((IntKind.i64.wrap (r9.1.1 - 1)),r10.1.1)]:List dW)),r1.1.1.2.2.2.2.2.2.2.2.2),()),(r10.2.1,()))
              else none
            else
              bif (r3.1.1==6) then
                some (((r1.1.1.1,r1.1.1.2.1,r1.1.1.2.2.1,r1.1.1.2.2.2.1,r1.1.1.2.2.2.2.1,r1.1.1.2.2.2.2.2.1,r1.1.1.2.2.2.2.2.2.1,r1.1.1.2.2.2.2.2.2.2.1,r1.1.1.2.2.2.2.2.2.2.2.1,r1.1.1.2.2.2.2.2.2.2.2.2.1,r1.1.1.2.2.2.2.2.2.2.2.2.2.1,true),()),(r3.2.1,()))
              else
                bif (r3.1.1==7) then
                  bnd (yz r3.2.1 ([(-2),0,1,2,5,1001]:List Int)) fun r11 =>
                  some (((r1.1.1.1,r1.1.1.2.1,r1.1.1.2.2.1,r1.1.1.2.2.2.1,r1.1.1.2.2.2.2.1,r1.1.1.2.2.2.2.2.1,r1.1.1.2.2.2.2.2.2.1,r1.1.1.2.2.2.2.2.2.2.1,r1.1.1.2.2.2.2.2.2.2.2.1,r11.1.1,r1.1.1.2.2.2.2.2.2.2.2.2.2),()),(r11.2.1,()))
                else
                  bif (r3.1.1==8) then
                    some (((r1.1.1.1,r1.1.1.2.1,r1.1.1.2.2.1,r1.1.1.2.2.2.1,r1.1.1.2.2.2.2.1,r1.1.1.2.2.2.2.2.1,r1.1.1.2.2.2.2.2.2.1,r1.1.1.2.2.2.2.2.2.2.1,r1.1.1.2.2.2.2.2.2.2.2.1,r1.1.1.2.2.2.2.2.2.2.2.2.1,true,r1.1.1.2.2.2.2.2.2.2.2.2.2.2),()),(r3.2.1,()))
                  else
                    bif (r3.1.1==9) then
                      bif (inb r2.1.1 r1.1.1.2.2.1.length) then
                        let r12:=yaw 0
                        bnd (yb7 r3.2.1) fun r13 =>
                        bif (inb r12 ((nth r1.1.1.2.2.1 r2.1.1 ([],[],false,[])).1).length) then
                          let r14:=(r1.1.1.2.2.1.set (r2.1.1).toNat ((((nth r1.1.1.2.2.1 r2.1.1 ([],[],false,[])).1).set (r12).toNat r13.1.1),((nth r1.1.1.2.2.1 r2.1.1 ([],[],false,[])).2).1,(((nth r1.1.1.2.2.1 r2.1.1 ([],[],false,[])).2).2).1,(((nth r1.1.1.2.2.1 r2.1.1 ([],[],false,[])).2).2).2))
                          some (((r1.1.1.1,r1.1.1.2.1,r14,r1.1.1.2.2.2),()),(r13.2.1,()))
                        else none
                      else none
                    else
                      bif (r3.1.1==10) then
                        bnd (yfK r3.2.1) fun r15 =>
                        some (((r1.1.1.1,r15.1.1,r1.1.1.2.2),()),(r15.2.1,()))
                      else
                        some ((r1.1.1,()),(r3.2.1,()))
theorem yXk (x:InD ynN):zjH ⟨yHj,92,ySm⟩ Tryz.f114.results.toList yG2 ynN ytp x=ya6 x.1 x.2.1:=by kernel_rfl
theorem yT9:ConOk Tryz.prog 114 ⟨ynN,ytp,fun x=>ya6 x.1 x.2.1⟩:=zkh (yPY) Tryz.func114 (by kernel_rfl) (by kernel_rfl) Tryz.ntmps114.symm (by decide) (fun x r h=>(yXk x).trans h)
def yjO:Con:=⟨ynN,ytp,fun x=>ya6 x.1 x.2.1⟩
theorem yq7:ConOk Tryz.prog 114 yjO:=yT9
theorem yEG (u:dU) (most:Int) (h:yI u) (h0:0≤most) (h1:most≤1000): ∃ (a:dA) (u':dU),ya6 u most=some ((a,()),(u',()))∧yml a∧yI u':=by
  unfold ya6
  obtain ⟨a,u1,e1,q1,d1⟩:=yY7 u most h h0 h1
  have hg:=yg.1 q1.1.1
  have hl:=q1.2.1.1.2
  have hd:=ysk q1.1.2.2.1 q1.1.1
  have hA:yml a:=yzE (yzM (yZt q1)) (by omega)
  have hL: ∀ b:dA,b.2.2.1=a.2.2.1→b.2.2.2.2.2.2.2.2.1=a.2.2.2.2.2.2.2.2.1→yml b:=fun b e1 e2=>by unfold yml; rw [e1,e2]; exact hA
  have hS: ∀ (m:dM) (k:Nat),m.1.length≤1000000000→m.2.1.length≤1000000000→yml (a.1,a.2.1,a.2.2.1.set k m,a.2.2.2):=fun m k g1 g2=>⟨by show (a.2.2.1.set k m).length≤_; rw [List.length_set]; exact hA.1,fun x hx=>by
    rcases List.mem_or_eq_of_mem_set hx with h1 | rfl
    · exact hA.2.1 x h1
    · exact ⟨g1,g2⟩,hA.2.2⟩
  obtain ⟨m,u2,e2,q2,d2⟩:=yB u1 (a.2.2.1.length:Int) d1
  obtain ⟨r,u3,e3,_,d3⟩:=yB u2 20 d2
  have hm:inb m a.2.2.1.length=true:=zjP.2 ⟨q2.1,q2.2.1 (by omega)⟩
  simp only [e1,e2,e3,zky,hm]
  cases (r==0)
  · cases (r==1)
    · cases (r==2)
      · cases (r==3)
        · cases (r==4)
          · cases (r==5)
            · cases (r==6)
              · cases (r==7)
                · cases (r==8)
                  · cases (r==9)
                    · cases (r==10)
                      · exact ⟨_,_,rfl,hL _ rfl rfl,d3⟩
                      · obtain ⟨g,u4,e4,d4⟩:=yZF u3 d3
                        simp only [cond_true,cond_false,e4,zky]
                        exact ⟨_,_,rfl,hL _ rfl rfl,d4⟩
                    · obtain ⟨l,u4,e4,_,d4⟩:=yLr u3 d3
                      have hmi:=zjP.1 hm
                      have hs:=(q1.2.1.1.1 m.toNat (by omega)).2.1
                      rw [Int.toNat_of_nonneg hmi.1]at hs
                      simp only [cond_true,cond_false,e4,zky,ydG]
                      rw [show dataAt 0=6 from rfl,zjP.2 (show (0:Int)≤6∧(6:Int) < ((nth a.2.2.1 m noMem).1.length:Int) by omega)]
                      have hnm:=yu3 (P:=fun x:dM=>x.1.length≤1000000000∧x.2.1.length≤1000000000) (d:=noMem) hm hA.2.1
                      exact ⟨_,_,rfl,hS _ _ (by show ((nth a.2.2.1 m noMem).1.set _ _).length≤_; rw [List.length_set]; exact hnm.1) hnm.2,d4⟩
                  · exact ⟨_,_,rfl,hL _ rfl rfl,d3⟩
                · obtain ⟨x,u4,e4,_,d4⟩:=ynV u3 [(-2),0,1,2,5,1001] d3 (by simp)
                  simp only [cond_true,cond_false,e4,zky]
                  exact ⟨_,_,rfl,hL _ rfl rfl,d4⟩
              · exact ⟨_,_,rfl,hL _ rfl rfl,d3⟩
            · obtain ⟨x,u4,e4,_,d4⟩:=yB u3 5 d3
              obtain ⟨l,u5,e5,_,d5⟩:=yLq u4 d4
              simp only [cond_true,cond_false,e4,zky,e5]
              rw [zkw.2 (show (a.2.2.2.2.2.2.2.2.1.length+ [(IntKind.i64.wrap (x - 1),l)].length) * 32≤140737488355328 by simp only [List.length_cons,List.length_nil]; omega)]
              exact ⟨_,_,rfl,⟨hA.1,hA.2.1,by show (a.2.2.2.2.2.2.2.2.1++ [(IntKind.i64.wrap (x - 1),l)]).length≤1000000000; rw [List.length_append]; simp only [List.length_cons,List.length_nil]; omega⟩,d5⟩
          · obtain ⟨x,u4,e4,_,d4⟩:=ynV u3 [(-1),60000,59990,60001] d3 (by simp)
            simp only [cond_true,cond_false,e4,zky]
            exact ⟨_,_,rfl,hL _ rfl rfl,d4⟩
        · obtain ⟨x,u4,e4,_,d4⟩:=ynV u3 [(-1),0,9,60000] d3 (by simp)
          simp only [cond_true,cond_false,e4,zky]
          exact ⟨_,_,rfl,hL _ rfl rfl,d4⟩
      · obtain ⟨x,u4,e4,_,d4⟩:=ynV u3 [(-1),1,9] d3 (by simp)
        simp only [cond_true,cond_false,e4,zky]
        exact ⟨_,_,rfl,hL _ rfl rfl,d4⟩
    · obtain ⟨x,u4,e4,_,d4⟩:=ynV u3 [(-2),(-1),0,5] d3 (by simp)
      simp only [cond_true,cond_false,e4,zky]
      exact ⟨_,_,rfl,hL _ rfl rfl,d4⟩
  · obtain ⟨x,u4,e4,q4,d4⟩:=yZE u3 d3
    simp only [cond_true,e4,zky]
    exact ⟨_,_,rfl,hS _ _ (by omega) (by omega),d4⟩
end
section
def yAA:Code:=(Tryz.f27.body).getD .skip
def yBd:Env:=zki TT [(94,yfA),(96,yez),(110,ytB),(114,yjO),(115,ymS)] []
theorem yHS:FrOk Tryz.prog ⟨yBd,38,fun _=>none⟩ yAA:=zkp yc yd ⟨ylP,yka,yEo,yq7,yu6,trivial⟩
def yIZ:Nat→Option Seg:=fun _=>none
abbrev yha:List Par:= [.kp tYs .fz]
abbrev ymy:List OT:= [⟨false,tA,(.pr .fz (.pr (.pr .fz .fz) (.pr (.ow (.pr (.ow .fz) (.pr (.ow (.pr .fz .fz)) (.pr .fz (.ow .fz))))) (.pr .fz (.pr .fz (.pr .fz (.pr .fz (.pr .fz (.pr (.ow (.pr .fz .fz)) (.pr .fz (.pr .fz .fz)))))))))))⟩]
def ycQ (a0:List Int):Option (ResD ymy×MutD yha) :=
  let r1:=ybz a0
  let r2:=yac a0 12
  bnd (ya6 r1 r2) fun r3 =>
  bnd (yak r3.2.1 3) fun r4 =>
  bif r4.1.1 then
    bif (ltb 0 (r3.1.1.2.2.1.length:Int)) then
      bif (inb 0 r3.1.1.2.2.1.length) then
        bif (ltb 6 (((nth r3.1.1.2.2.1 0 ([],[],false,[])).1).length:Int)) then
          bif (inb 0 r3.1.1.2.2.1.length) then
            bnd (yN r4.2.1) fun r5 =>
            bif (inb 6 ((nth r3.1.1.2.2.1 0 ([],[],false,[])).1).length) then
              let r6:=(r3.1.1.2.2.1.set (0:Int).toNat ((((nth r3.1.1.2.2.1 0 ([],[],false,[])).1).set (6:Int).toNat ([r5.1.1]:List Int)),((nth r3.1.1.2.2.1 0 ([],[],false,[])).2).1,(((nth r3.1.1.2.2.1 0 ([],[],false,[])).2).2).1,(((nth r3.1.1.2.2.1 0 ([],[],false,[])).2).2).2))
              some (((r3.1.1.1,r3.1.1.2.1,r6,r3.1.1.2.2.2),()),())
            else none
          else none
        else
          some ((r3.1.1,()),())
      else none
    else
      some ((r3.1.1,()),())
  else
    some ((r3.1.1,()),())
theorem yO8 (x:InD yha):zjH ⟨yBd,38,yIZ⟩ Tryz.f27.results.toList yAA yha ymy x=ycQ x.1:=by kernel_rfl
theorem yKo:ConOk Tryz.prog 27 ⟨yha,ymy,fun x=>ycQ x.1⟩:=zkh (yHS) Tryz.func27 (by kernel_rfl) (by kernel_rfl) Tryz.ntmps27.symm (by decide) (fun x r h=>(yO8 x).trans h)
def yxe:Con:=⟨yha,ymy,fun x=>ycQ x.1⟩
theorem yNN:ConOk Tryz.prog 27 yxe:=yKo
theorem yX7 (a0:List Int) (hb:a0.length≤140737488355328): ∃ a:dA,ycQ a0=some ((a,()),()):=by
  unfold ycQ
  obtain ⟨h1,h2⟩:=yD7 a0 12 (by omega) hb
  obtain ⟨a,u1,e1,q1,d1⟩:=yEG _ _ (yHw a0 hb) h1 (by omega)
  obtain ⟨r,u2,e2,d2⟩:=ySB u1 3 d1
  simp only [e1,e2,zky]
  cases r
  · exact ⟨_,rfl⟩
  · simp only [cond_true]
    by_cases hl:(0:Int) < (a.2.2.1.length:Int)
    · have hi:inb 0 a.2.2.1.length=true:=zjP.2 (by omega)
      rw [zjI hl,hi]
      simp only [cond_true]
      by_cases h6:(6:Int) < ((nth a.2.2.1 0 ([],[],false,[])).1.length:Int)
      · obtain ⟨x,u3,e3,_,d3⟩:=ySA u2 d2
        rw [zjI h6,e3]
        simp only [cond_true,zky]
        rw [show inb 6 (nth a.2.2.1 0 ([],[],false,[])).1.length=true from zjP.2 (by omega)]
        exact ⟨_,rfl⟩
      · rw [zkm (by omega)]
        exact ⟨_,rfl⟩
    · rw [zkm (by omega)]
      exact ⟨_,rfl⟩
end
section
def yAz:Code:=(Tryz.f28.body).getD .skip
def yBc:Env:=zki TT [(94,yfA),(96,yez),(114,yjO)] []
theorem yHR:FrOk Tryz.prog ⟨yBc,10,fun _=>none⟩ yAz:=zkp yc yd ⟨ylP,yka,yq7,trivial⟩
def yIY:Nat→Option Seg:=fun _=>none
abbrev yg9:List Par:= [.kp tYs .fz]
abbrev ymx:List OT:= [⟨false,tA,(.pr .fz (.pr (.pr .fz .fz) (.pr (.ow (.pr (.ow .fz) (.pr (.ow (.pr .fz .fz)) (.pr .fz (.ow .fz))))) (.pr .fz (.pr .fz (.pr .fz (.pr .fz (.pr .fz (.pr (.ow (.pr .fz .fz)) (.pr .fz (.pr .fz .fz)))))))))))⟩]
def ycP (a0:List Int):Option (ResD ymx×MutD yg9) :=
  let r1:=ybz a0
  let r2:=yac a0 14
  bnd (ya6 r1 r2) fun r3 =>
  some ((r3.1.1,()),())
theorem yO7 (x:InD yg9):zjH ⟨yBc,10,yIY⟩ Tryz.f28.results.toList yAz yg9 ymx x=ycP x.1:=by kernel_rfl
theorem yKn:ConOk Tryz.prog 28 ⟨yg9,ymx,fun x=>ycP x.1⟩:=zkh (yHR) Tryz.func28 (by kernel_rfl) (by kernel_rfl) Tryz.ntmps28.symm (by decide) (fun x r h=>(yO7 x).trans h)
def yxd:Con:=⟨yg9,ymx,fun x=>ycP x.1⟩
theorem yNM:ConOk Tryz.prog 28 yxd:=yKn
theorem yX6 (a0:List Int) (hb:a0.length≤140737488355328): ∃ a:dA,ycP a0=some ((a,()),()):=by
  unfold ycP
  obtain ⟨h1,h2⟩:=yD7 a0 14 (by omega) hb
  obtain ⟨a,u1,e1,q1,d1⟩:=yEG _ _ (yHw a0 hb) h1 (by omega)
  simp only [e1,zky]
  exact ⟨a,rfl⟩
end
end
end Go.Tf
