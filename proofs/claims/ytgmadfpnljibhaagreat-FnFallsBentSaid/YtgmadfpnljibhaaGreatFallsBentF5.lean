/- Functions of the program, and what they come to. -/
import Derived.Test.YtgmadfpnljibhaaGreatFallsBentF4
namespace Go.Tf
noncomputable section
open Go.Proofs
set_option synthInstance.maxHeartbeats 400000
set_option synthInstance.maxSize 10000
set_option linter.unusedVariables false
set_option linter.unusedSimpArgs false
set_option maxRecDepth 100000
section
def ypr:Code:=(Tryz.f266.body).getD .skip
def yv6:Env:=zj2 TT [(138,yrU),(150,ym),(213,yut),(264,yvi),(265,yvh),(286,yvf)] []
theorem yXM:FrOk Tryz.prog ⟨yv6,43,fun _=>none⟩ ypr:=zj6 yc yd ⟨yCc,yv,yEv,yIA,yIz,yIx,trivial⟩
def yJx:Nat→Option Seg:=fun _=>none
def yc4:Shape:=⟨[(0,false,[.ptr 1000000000 0]),(2,false,[.ptr 0 0]),(3,false,[.ptr 4352 0]),(4,false,[.int .i64])],[(0,[.nil,.nil,.bool,.nil]),(4352,[.at 800000000,.at 800000001,.bool,.at 800000002]),(1000000000,[.fz tY,.int .i64,.int .i64])],[(800000000,tL,.fz),(800000001,tW,(.pr .fz .fz)),(800000002,tI,.fz)]⟩
def yiZ:Shape:=⟨[(0,false,[.ptr 1000000000 0]),(2,false,[.ptr 0 0]),(3,false,[.ptr 4352 0]),(4,false,[.int .i64])],[(0,[.nil,.nil,.bool,.nil]),(4352,[.at 800000000,.at 800000001,.bool,.at 800000002]),(1000000000,[.fz tY,.int .i64,.int .i64])],[(800000000,tL,.fz),(800000001,tW,(.pr .fz .fz)),(800000002,tI,.fz)]⟩
def yiM:Shape:=⟨[(2,false,[.ptr 0 0]),(3,false,[.ptr 4352 0])],[(0,[.nil,.nil,.bool,.nil]),(4352,[.at 800000000,.at 800000001,.bool,.at 800000002]),(1000000000,[.fz tY,.int .i64,.int .i64])],[(800000000,tL,.fz),(800000001,tW,(.pr .fz .fz)),(800000002,tI,.fz)]⟩
def yov:Shape:=⟨[],[],[]⟩
abbrev yhU (v0:Int) (v1 v2:dM) (v3:dU):(yc4).X:=((((),()),((),()),((),()),(v0,()),()),(((),(),v1.2.2.1,(),()),((),(),v2.2.2.1,(),()),(v3.1,v3.2.1,v3.2.2,()),()),(v2.1,v2.2.1,v2.2.2.2,()))
abbrev yU8 (v0:Int) (v1 v2:dM) (v3:dU):(yiZ).X:=((((),()),((),()),((),()),(v0,()),()),(((),(),v1.2.2.1,(),()),((),(),v2.2.2.1,(),()),(v3.1,v3.2.1,v3.2.2,()),()),(v2.1,v2.2.1,v2.2.2.2,()))
abbrev yUX (v0 v1:dM) (v2:dU):(yiM).X:=((((),()),((),()),()),(((),(),v0.2.2.1,(),()),((),(),v1.2.2.1,(),()),(v2.1,v2.2.1,v2.2.2,()),()),(v1.1,v1.2.1,v1.2.2.2,()))
def yvK (v0:Int) (v1 v2:Bool) (v3:List Int) (v4 v5:Int) (v6:List (List Int)) (v7:List dW) (v8:List Int):Option ((yc4).X ⊕ ((yiM).X ⊕ (yov).X)) :=
 bif (ltb 0 v0) then
 bnd (yb (v3,v4,v5) 6) fun r11 =>
 bif (r11.1.1==0) then
 let r12:=yej (v6,v7,v2,v8)
 some (.inl ((((),()),((),()),((),()),((IntKind.i64.wrap (v0 - 1)),()),()),(((),(),v1,(),()),((),(),r12.2.2.1,(),()),(r11.2.1.1,r11.2.1.2.1,r11.2.1.2.2,()),()),(r12.1,r12.2.1,r12.2.2.2,())))
 else
 bif (r11.1.1==1) then
 bnd (yb r11.2.1 (v6.length:Int)) fun r13 =>
 let r14:=ygX (v6,v7,v2,v8) r13.1.1
 some (.inl ((((),()),((),()),((),()),((IntKind.i64.wrap (v0 - 1)),()),()),(((),(),v1,(),()),((),(),r14.2.2.1,(),()),(r13.2.1.1,r13.2.1.2.1,r13.2.1.2.2,()),()),(r14.1,r14.2.1,r14.2.2.2,())))
 else
 bnd (yb r11.2.1 (v6.length:Int)) fun r15 =>
 bnd (ydz r15.2.1) fun r16 =>
 let r17:=yel (v6,v7,v2,v8) r15.1.1 r16.1.1
 some (.inl ((((),()),((),()),((),()),((IntKind.i64.wrap (v0 - 1)),()),()),(((),(),v1,(),()),((),(),r17.1.2.2.1,(),()),(r16.2.1.1,r16.2.1.2.1,r16.2.1.2.2,()),()),(r17.1.1,r17.1.2.1,r17.1.2.2.2,())))
 else
 some (.inr (.inl ((((),()),((),()),()),(((),(),v1,(),()),((),(),v2,(),()),(v3,v4,v5,()),()),(v6,v7,v8,()))))
def ybL (x:(yc4).X):=yvK x.1.2.2.2.1.1 x.2.1.1.2.2.1 x.2.1.2.1.2.2.1 x.2.1.2.2.1.1 x.2.1.2.2.1.2.1 x.2.1.2.2.1.2.2.1 x.2.2.1 x.2.2.2.1 x.2.2.2.2.1
def yFN (x:(yiZ).X):(yc4).X:=((((),()),((),()),((),()),(x.1.2.2.2.1.1,()),()),(((),(),x.2.1.1.2.2.1,(),()),((),(),x.2.1.2.1.2.2.1,(),()),(x.2.1.2.2.1.1,x.2.1.2.2.1.2.1,x.2.1.2.2.1.2.2.1,()),()),(x.2.2.1,x.2.2.2.1,x.2.2.2.2.1,()))
def yHj:Code:=(zdD ypr 64 116).getD .skip
theorem yWU:zdD ypr 64 29=some (.block 0 (.loop yHj)):=by kernel_rfl
theorem yZ7 (x:(yc4).X):zg0 ⟨yv6,43,yJx⟩ 0 yHj 116 yc4 yiM yov x=ybL x:=by kernel_rfl
def yF0 (x:(yiZ).X):Nat:=18446744073709551616
def yxd (x:(yiZ).X):Option ((yiM).X ⊕ (yov).X):=zz ybL (yF0 x) (yFN x)
def yGi:Seg:=⟨yiZ,yiM,yov,yxd⟩
def yJy:Nat→Option Seg:=fun q=>bif Nat.beq q 29 then some yGi else yJx q
theorem yXN:FrOk Tryz.prog ⟨yv6,43,yJy⟩ ypr:=(yXM).loop (sg:=yGi) yc4 yFN (by decide) yWU ybL yF0 (by decide) (fun _=>rfl) (fun x r _ h=>h) yZ7
abbrev ypQ:List Par:= [.pt tU .fz]
abbrev ywI:List OT:= [⟨false,tM,(.pr (.ow .fz) (.pr (.ow (.pr .fz .fz)) (.pr .fz (.ow .fz))))⟩]
def yg1 (a0:dU):Option (ResD ywI×MutD ypQ) :=
 bnd (yb a0 5) fun r1 =>
 let r2:=ybN (IntKind.i64.wrap (3+r1.1.1))
 bnd (yb r1.2.1 8) fun r3 =>
 zjY (yxd ((((),()),((),()),((),()),(r3.1.1,()),()),(((),(),false,(),()),((),(),r2.2.2.1,(),()),(r3.2.1.1,r3.2.1.2.1,r3.2.1.2.2,()),()),(r2.1,r2.2.1,r2.2.2.2,()))) (fun y17 =>
 some (((y17.2.2.1,y17.2.2.2.1,y17.2.1.2.1.2.2.1,y17.2.2.2.2.1),()),((y17.2.1.2.2.1.1,y17.2.1.2.2.1.2.1,y17.2.1.2.2.1.2.2.1),()))) (fun y17 =>
 none)
theorem y8e (x:InD ypQ):zjw ⟨yv6,43,yJy⟩ Tryz.f266.results.toList ypr ypQ ywI x=yg1 x.1:=by kernel_rfl
theorem y3F:ConOk Tryz.prog 266 ⟨ypQ,ywI,fun x=>yg1 x.1⟩:=zj1 (yXN) Tryz.func266 (by kernel_rfl) (by kernel_rfl) Tryz.ntmps266.symm (by decide) (fun x r h=>(y8e x).trans h)
def yKF:Con:=⟨ypQ,ywI,fun x=>yg1 x.1⟩
theorem y6S:ConOk Tryz.prog 266 yKF:=y3F
theorem y7i: ∀ (n:Nat) (m:dM) (u:dU) (fuel:Nat),n < fuel→n≤1000→yA u→yu m=true →
  ∃ (m':dM) (u':dU),zz ybL fuel (yhU n noMem m u)=some (.inl (yUX noMem m' u'))∧yA u'∧yu m'=true
 | 0,m,u,fuel+1,_,_,hu,h=>⟨m,u,by simp only [zz,ybL,yhU,yvK]; rfl,hu,h⟩
 | n+1,m,u,fuel+1,hf,hn,hu,h=>by
  have hlen:=(yaw h).2.2.2
  have key: ∃ (m1:dM) (u1:dU),ybL (yhU ((n+1:Nat):Int) noMem m u)=some (.inl (yhU (n:Int) noMem m1 u1))∧yA u1∧yu m1=true:=by
   obtain ⟨r,u1,e1,_,d1⟩:=yp u 6 hu
   simp only [ybL,yhU,yvK,zj4 (show (0:Int) < ((n+1:Nat):Int) by omega),cond_true,zkr,e1,zkc,show ((n+1:Nat):Int) - 1=(n:Int) by omega,wr (show -9223372036854775808≤(n:Int) by omega) (by omega)]
   cases (r==0)
   ·obtain ⟨i,u2,e2,q2,d2⟩:=yp u1 (m.1.length:Int) d1
    cases (r==1)
    ·obtain ⟨s,u3,e3,_,d3⟩:=yW3 u2 d2
     simp only [cond_false,e2,zkc,e3,yel]
     exact ⟨(yhd m i s).1,u3,rfl,d3,y0f i s h⟩
    ·simp only [cond_false,cond_true,e2,zkc,ygX]
     exact ⟨spoil m i,u2,rfl,d2,yOc i h⟩
   ·simp only [cond_true,yej]
    exact ⟨yfC m,u1,rfl,d1,yXc h⟩
  obtain ⟨m1,u1,e1,d1,h1⟩:=key
  obtain ⟨m',u',e2,d2,h2⟩:=y7i n m1 u1 fuel (by omega) (by omega) d1 h1
  exact ⟨m',u',by rw [← e2,zz,e1],d2,h2⟩
theorem yabo (u:dU) (h:yA u): ∃ (m:dM) (u':dU),yg1 u=some ((m,()),(u',()))∧yu m=true∧yA u':=by
 obtain ⟨r1,u1,e1,q1,d1⟩:=yp u 5 h
 obtain ⟨r3,u3,e3,q3,d3⟩:=yp u1 8 d1
 have:=q1.1; have:=q1.2.1 (by omega); have:=q3.1; have:=q3.2.1 (by omega)
 obtain ⟨m',u',e4,d4,h4⟩:=y7i r3.toNat (ycO (3+r1)) u3 18446744073709551616 (by omega) (by omega) d3 (yK0 (by omega) (by omega))
 rw [show ((r3.toNat:Nat):Int)=r3 by omega]at e4
 unfold yg1
 simp only [e1,e3,zkc,wr (show -9223372036854775808≤3+r1 by omega) (by omega),ybN]
 refine ⟨m',u',?_,h4,d4⟩
 exact (congrArg (fun z=>zjY z _ _) (show yxd (yU8 r3 noMem (ycO (3+r1)) u3)=_ from e4)).trans rfl
end
section
def ysv:Code:=(Tryz.f211.body).getD .skip
def yyC:Env:=zj2 TT [(124,yae),(150,ym),(212,yB1),(232,yoD),(266,yKF)] [(25088,(.pr .fz .fz)),(53440,(.pr .fz .fz)),(61440,.fz)]
theorem y2f:FrOk Tryz.prog ⟨yyC,62,fun _=>none⟩ ysv:=zj6 yc yd ⟨yaQ,yv,yPs,yAf,y6S,trivial⟩
def yMa:Nat→Option Seg:=fun _=>none
def ybE:Shape:=⟨[(0,false,[.ptr 1000000000 0]),(2,false,[.ptr 0 0]),(3,false,[.ptr 4224 0])],[(0,[.nil,.nil,.bool,.nil]),(4224,[.at 800000000,.at 800000001,.bool,.at 800000002]),(1000000000,[.fz tY,.int .i64,.int .i64])],[(800000000,tL,.fz),(800000001,tW,(.pr .fz .fz)),(800000002,tI,.fz)]⟩
def ygl:Shape:=⟨[(0,false,[.ptr 1000000000 0]),(2,false,[.ptr 0 0]),(3,false,[.ptr 4224 0])],[(0,[.nil,.nil,.bool,.nil]),(4224,[.at 800000000,.at 800000001,.bool,.at 800000002]),(1000000000,[.fz tY,.int .i64,.int .i64])],[(800000000,tL,.fz),(800000001,tW,(.pr .fz .fz)),(800000002,tI,.fz)]⟩
def yga:Shape:=⟨[(2,false,[.ptr 0 0]),(3,false,[.ptr 4224 0])],[(0,[.nil,.nil,.bool,.nil]),(4224,[.at 800000000,.at 800000001,.bool,.at 800000002]),(1000000000,[.fz tY,.int .i64,.int .i64])],[(800000000,tL,.fz),(800000001,tW,(.pr .fz .fz)),(800000002,tI,.fz)]⟩
def yli:Shape:=⟨[],[],[]⟩
abbrev yjA (v0 v1:dM) (v2:dU):(ybE).X:=((((),()),((),()),((),()),()),(((),(),v0.2.2.1,(),()),((),(),v1.2.2.1,(),()),(v2.1,v2.2.1,v2.2.2,()),()),(v1.1,v1.2.1,v1.2.2.2,()))
abbrev yQc (v0 v1:dM) (v2:dU):(ygl).X:=((((),()),((),()),((),()),()),(((),(),v0.2.2.1,(),()),((),(),v1.2.2.1,(),()),(v2.1,v2.2.1,v2.2.2,()),()),(v1.1,v1.2.1,v1.2.2.2,()))
abbrev yP1 (v0 v1:dM) (v2:dU):(yga).X:=((((),()),((),()),()),(((),(),v0.2.2.1,(),()),((),(),v1.2.2.1,(),()),(v2.1,v2.2.1,v2.2.2,()),()),(v1.1,v1.2.1,v1.2.2.2,()))
def yjC (v0 v1:Bool) (v2:List Int) (v3 v4:Int) (v5:List (List Int)) (v6:List dW) (v7:List Int):Option ((ybE).X ⊕ ((yga).X ⊕ (yli).X)) :=
 bnd (yb (v2,v3,v4) 3) fun r9 =>
 bif (ltb (v6.length:Int) (IntKind.i64.wrap (59+r9.1.1))) then
 bif (zjQ v6.length ([(0,[])]:List dW).length 32) then
 some (.inl ((((),()),((),()),((),()),()),(((),(),v0,(),()),((),(),v1,(),()),(r9.2.1.1,r9.2.1.2.1,r9.2.1.2.2,()),()),(v5,(v6++([(0,[])]:List dW)),v7,())))
 else none
 else
 some (.inr (.inl ((((),()),((),()),()),(((),(),v0,(),()),((),(),v1,(),()),(r9.2.1.1,r9.2.1.2.1,r9.2.1.2.2,()),()),(v5,v6,v7,()))))
def yaI (x:(ybE).X):=yjC x.2.1.1.2.2.1 x.2.1.2.1.2.2.1 x.2.1.2.2.1.1 x.2.1.2.2.1.2.1 x.2.1.2.2.1.2.2.1 x.2.2.1 x.2.2.2.1 x.2.2.2.2.1
def yBh (x:(ygl).X):(ybE).X:=((((),()),((),()),((),()),()),(((),(),x.2.1.1.2.2.1,(),()),((),(),x.2.1.2.1.2.2.1,(),()),(x.2.1.2.2.1.1,x.2.1.2.2.1.2.1,x.2.1.2.2.1.2.2.1,()),()),(x.2.2.1,x.2.2.2.1,x.2.2.2.2.1,()))
def yC9:Code:=(zdD ysv 64 241656).getD .skip
theorem yRh:zdD ysv 64 60414=some (.block 1 (.loop yC9)):=by kernel_rfl
theorem yTf (x:(ybE).X):zg0 ⟨yyC,62,yMa⟩ 1 yC9 241656 ybE yga yli x=yaI x:=by kernel_rfl
def yBt (x:(ygl).X):Nat:=18446744073709551616
def ysL (x:(ygl).X):Option ((yga).X ⊕ (yli).X):=zz yaI (yBt x) (yBh x)
def yBL:Seg:=⟨ygl,yga,yli,ysL⟩
def yMb:Nat→Option Seg:=fun q=>bif Nat.beq q 60414 then some yBL else yMa q
theorem y2g:FrOk Tryz.prog ⟨yyC,62,yMb⟩ ysv:=(y2f).loop (sg:=yBL) ybE yBh (by decide) yRh yaI yBt (by decide) (fun _=>rfl) (fun x r _ h=>h) yTf
abbrev ysW:List Par:= [.pt tU .fz]
abbrev yzd:List OT:= [⟨false,tM,(.pr (.ow .fz) (.pr (.ow (.pr .fz .fz)) (.pr .fz (.ow .fz))))⟩]
def yfM (a0:dU):Option (ResD yzd×MutD ysW) :=
 bnd (yg1 a0) fun r1 =>
 bnd (yb r1.2.1 14) fun r2 =>
 bif (r2.1.1==0) then
 bnd (ydy r2.2.1) fun r3 =>
 bif (inb 0 r1.1.1.1.length) then
 some ((((r1.1.1.1.set (0:Int).toNat r3.1.1),r1.1.1.2),()),(r3.2.1,()))
 else none
 else
 bif (r2.1.1==1) then
 bnd (yn r2.2.1 ([(-1),0,9]:List Int)) fun r4 =>
 bnd (ydy r4.2.1) fun r5 =>
 bif (zjQ r1.1.1.2.1.length ([(r4.1.1,r5.1.1)]:List dW).length 32) then
 some (((r1.1.1.1,(r1.1.1.2.1++([(r4.1.1,r5.1.1)]:List dW)),r1.1.1.2.2),()),(r5.2.1,()))
 else none
 else
 bif (r2.1.1==2) then
 bnd (yn r2.2.1 ([(-1),0,9]:List Int)) fun r6 =>
 bif (zjQ r1.1.1.2.2.2.length ([r6.1.1]:List Int).length 8) then
 some (((r1.1.1.1,r1.1.1.2.1,r1.1.1.2.2.1,(r1.1.1.2.2.2++([r6.1.1]:List Int))),()),(r6.2.1,()))
 else none
 else
 bif (r2.1.1==3) then
 let r7:=yin r1.1.1
 some ((r7,()),(r2.2.1,()))
 else
 bif (r2.1.1==4) then
 zjY (ysL ((((),()),((),()),((),()),()),(((),(),false,(),()),((),(),r1.1.1.2.2.1,(),()),(r2.2.1.1,r2.2.1.2.1,r2.2.1.2.2,()),()),(r1.1.1.1,r1.1.1.2.1,r1.1.1.2.2.2,()))) (fun y9 =>
 some (((y9.2.2.1,y9.2.2.2.1,y9.2.1.2.1.2.2.1,y9.2.2.2.2.1),()),((y9.2.1.2.2.1.1,y9.2.1.2.2.1.2.1,y9.2.1.2.2.1.2.2.1),()))) (fun y9 =>
 none)
 else
 bif (r2.1.1==5) then
 some (((([]:List (List Int)),r1.1.1.2),()),(r2.2.1,()))
 else
 some ((r1.1.1,()),(r2.2.1,()))
theorem y9A (x:InD ysW):zjw ⟨yyC,62,yMb⟩ Tryz.f211.results.toList ysv ysW yzd x=yfM x.1:=by kernel_rfl
theorem y6u:ConOk Tryz.prog 211 ⟨ysW,yzd,fun x=>yfM x.1⟩:=zj1 (y2g) Tryz.func211 (by kernel_rfl) (by kernel_rfl) Tryz.ntmps211.symm (by decide) (fun x r h=>(y9A x).trans h)
def yB2:Con:=⟨ysW,yzd,fun x=>yfM x.1⟩
theorem yPt:ConOk Tryz.prog 211 yB2:=y6u
theorem y7h: ∀ (n:Nat) (m:dM) (u:dU) (fuel:Nat),n < fuel→yA u→m.2.1.length+n=62∨(n=0∧61≤m.2.1.length∧m.2.1.length≤100) →
  ∃ (m':dM) (u':dU),zz yaI fuel (yjA noMem m u)=some (.inl (yP1 noMem m' u'))∧yA u'∧m'.1=m.1∧m'.2.1.length≤100
 | 0,m,u,fuel+1,_,hu,hn=>by
  obtain ⟨r,u1,e1,q1,d1⟩:=yp u 3 hu
  have:=q1.1; have:=q1.2.1 (by omega)
  refine ⟨m,u1,?_,d1,rfl,by omega⟩
  rw [zz]
  simp only [yaI,yjA,yjC,zkr,e1,zkc,wr (show -9223372036854775808≤59+r by omega) (by omega),zkx (show 59+r≤(m.2.1.length:Int) by omega),cond_false]
 | n+1,m,u,fuel+1,hf,hu,hn=>by
  obtain ⟨r,u1,e1,q1,d1⟩:=yp u 3 hu
  have:=q1.1; have:=q1.2.1 (by omega)
  by_cases hlt:(m.2.1.length:Int) < 59+r
  ·obtain ⟨m',u',e2,d2,l2⟩:=y7h n (m.1,m.2.1++ [(0,[])],m.2.2) u1 fuel (by omega) d1 (.inl (by
    show (m.2.1++ [((0:Int),([]:List Int))]).length+n=62
    rw [List.length_append]; simp only [List.length_cons,List.length_nil]; omega))
   refine ⟨m',u',?_,d2,l2⟩
   rw [← e2,zz]
   simp only [yaI,yjA,yjC,zkr,e1,zkc,wr (show -9223372036854775808≤59+r by omega) (by omega),zj4 hlt,cond_true,zka.2 (show (m.2.1.length+ [((0:Int),([]:List Int))].length) * 32≤140737488355328 by simp only [List.length_cons,List.length_nil]; omega)]
  ·refine ⟨m,u1,?_,d1,rfl,by omega⟩
   rw [zz]
   simp only [yaI,yjA,yjC,zkr,e1,zkc,wr (show -9223372036854775808≤59+r by omega) (by omega),zkx (show 59+r≤(m.2.1.length:Int) by omega),cond_false]
theorem y9i (u:dU) (h:yA u): ∃ (m:dM) (u':dU),yfM u=some ((m,()),(u',()))∧(m.1.length≤100∧m.2.1.length≤100)∧yA u':=by
 unfold yfM
 obtain ⟨m,u1,e1,q1,d1⟩:=yabo u h
 obtain ⟨r,u2,e2,_,d2⟩:=yp u1 14 d1
 obtain ⟨h1,h2,h3,h4,h5,h6⟩:=yaw q1
 rw [ys6]at h3
 have hlen:=yTo h3.2 (lo:=0) (n:=m.1.length) h3.1 (by omega)
 simp only [e1,e2,zkc]
 cases (r==0)
 ·cases (r==1)
  ·cases (r==2)
   ·cases (r==3)
    ·cases (r==4)
     ·cases (r==5)
      ·exact ⟨_,_,rfl,by omega,d2⟩
      ·exact ⟨_,_,rfl,⟨Nat.zero_le _,by show m.2.1.length≤100; omega⟩,d2⟩
     ·obtain ⟨m',u',e3,d3,l3,l4⟩:=y7h (62 - m.2.1.length) m u2 18446744073709551616 (by omega) d2 (.inl (by omega))
      simp only [cond_true,cond_false]
      refine ⟨m',u',?_,⟨by rw [l3]; omega,l4⟩,d3⟩
      exact (congrArg (fun z=>zjY z _ _) (show ysL (yQc noMem m u2)=_ from e3)).trans rfl
    ·exact ⟨_,_,rfl,⟨by show m.1.length≤100; omega,Nat.zero_le _⟩,d2⟩
   ·obtain ⟨x,u3,e3,_,d3⟩:=yfe u2 [(-1),0,9] d2 (by simp)
    simp only [cond_true,cond_false,e3,zkc]
    rw [zka.2 (show (m.2.2.2.length+ [x].length) * 8≤140737488355328 by simp only [List.length_cons,List.length_nil]; omega)]
    exact ⟨_,_,rfl,⟨by show m.1.length≤100; omega,by show m.2.1.length≤100; omega⟩,d3⟩
  ·obtain ⟨x,u3,e3,_,d3⟩:=yfe u2 [(-1),0,9] d2 (by simp)
   obtain ⟨l,u4,e4,_,d4⟩:=yW2 u3 d3
   simp only [cond_true,cond_false,e3,zkc,e4]
   rw [zka.2 (show (m.2.1.length+ [(x,l)].length) * 32≤140737488355328 by simp only [List.length_cons,List.length_nil]; omega)]
   exact ⟨_,_,rfl,⟨by show m.1.length≤100; omega,by show (m.2.1++ [(x,l)]).length≤100; rw [List.length_append]; simp only [List.length_cons,List.length_nil]; omega⟩,d4⟩
 ·obtain ⟨l,u3,e3,_,d3⟩:=yW2 u2 d2
  simp only [cond_true,e3,zkc]
  rw [show inb 0 m.1.length=true from zkl (i:=0) (by omega)]
  exact ⟨_,_,rfl,⟨by show (m.1.set _ _).length≤100; rw [List.length_set]; omega,by show m.2.1.length≤100; omega⟩,d3⟩
end
section
def yQK:Code:=(Tryz.f217.body).getD .skip
def yQ2:Env:=zj2 TT [(150,ym)] []
theorem y2k:FrOk Tryz.prog ⟨yQ2,10,fun _=>none⟩ yQK:=zj6 yc yd ⟨yv,trivial⟩
def y4H:Nat→Option Seg:=fun _=>none
abbrev ysY:List Par:= [.pt tU .fz]
abbrev yzg:List OT:= [⟨false,tG,(.pr .fz .fz)⟩]
def yfN (a0:dU):Option (ResD yzg×MutD ysY) :=
 bnd (yb a0 3) fun r1 =>
 bnd (yb r1.2.1 8) fun r2 =>
 some ((((IntKind.i64.wrap (3+r1.1.1)),(IntKind.i64.wrap (1+r2.1.1))),()),(r2.2.1,()))
theorem y9D (x:InD ysY):zjw ⟨yQ2,10,y4H⟩ Tryz.f217.results.toList yQK ysY yzg x=yfN x.1:=by kernel_rfl
theorem y6x:ConOk Tryz.prog 217 ⟨ysY,yzg,fun x=>yfN x.1⟩:=zj1 (y2k) Tryz.func217 (by kernel_rfl) (by kernel_rfl) Tryz.ntmps217.symm (by decide) (fun x r h=>(y9D x).trans h)
def yB4:Con:=⟨ysY,yzg,fun x=>yfN x.1⟩
theorem yPv:ConOk Tryz.prog 217 yB4:=y6x
theorem yabn (u:List Int×Int×Int) (h:yA u): ∃ (g:Int×Int) (u':List Int×Int×Int),yfN u=some ((g,()),(u',()))∧yf g=true∧yA u':=by
 unfold yfN
 obtain ⟨r1,u1,e1,q1,d1⟩:=yp u 3 h
 obtain ⟨r2,u2,e2,q2,d2⟩:=yp u1 8 d1
 simp only [e1,e2,zkc]
 refine ⟨_,_,rfl,?_,d2⟩
 have:=q1.2.1 (by omega); have:=q2.2.1 (by omega); have:=q1.1; have:=q2.1
 rw [wr (by omega) (by omega),wr (by omega) (by omega)]
 exact yk.2 ⟨⟨by show 3≤3+r1; omega,by show 3+r1≤5; omega⟩,by show 1≤1+r2; omega,by show 1+r2≤8; omega⟩
end
section
def yOF:Code:=(Tryz.f233.body).getD .skip
def yPg:Env:=zj2 TT [(110,ylo),(124,yae),(150,ym),(217,yB4)] []
theorem yXO:FrOk Tryz.prog ⟨yPg,39,fun _=>none⟩ yOF:=zj6 yc yd ⟨yuC,yaQ,yv,yPv,trivial⟩
def y0I:Nat→Option Seg:=fun _=>none
abbrev ypR:List Par:= [.pt tU .fz]
abbrev ywJ:List OT:= [⟨false,tS,(.pr .fz (.pr .fz (.pr .fz (.pr .fz (.pr .fz (.pr .fz (.pr .fz .fz)))))))⟩]
def yg2 (a0:dU):Option (ResD ywJ×MutD ypR) :=
 bnd (yfN a0) fun r1 =>
 bnd (yb r1.2.1 3) fun r2 =>
 bnd (yn r2.2.1 ([0,1,2,3,60000]:List Int)) fun r3 =>
 bnd (yb r3.2.1 r1.1.1.1) fun r4 =>
 bnd (yn r4.2.1 ([0,1,5,60000]:List Int)) fun r5 =>
 bnd (yZ r5.2.1 2) fun r6 =>
 bif r6.1.1 then
 bnd (yb r6.2.1 r1.1.1.1) fun r7 =>
 bnd (yb r7.2.1 (IntKind.i64.wrap (r1.1.1.2+1))) fun r8 =>
 some ((((IntKind.i64.wrap (1+r2.1.1)),r3.1.1,r4.1.1,r1.1.1.1,r1.1.1.2,r5.1.1,r7.1.1,r8.1.1),()),(r8.2.1,()))
 else
 some ((((IntKind.i64.wrap (1+r2.1.1)),r3.1.1,r4.1.1,r1.1.1.1,r1.1.1.2,r5.1.1,(-1),0),()),(r6.2.1,()))
theorem y8f (x:InD ypR):zjw ⟨yPg,39,y0I⟩ Tryz.f233.results.toList yOF ypR ywJ x=yg2 x.1:=by kernel_rfl
theorem y3G:ConOk Tryz.prog 233 ⟨ypR,ywJ,fun x=>yg2 x.1⟩:=zj1 (yXO) Tryz.func233 (by kernel_rfl) (by kernel_rfl) Tryz.ntmps233.symm (by decide) (fun x r h=>(y8f x).trans h)
def yKG:Con:=⟨ypR,ywJ,fun x=>yg2 x.1⟩
theorem y6T:ConOk Tryz.prog 233 yKG:=y3G
theorem yabq (u:dU) (h:yA u): ∃ (s:dS) (u':dU),yg2 u=some ((s,()),(u',()))∧yA u':=by
 unfold yg2
 obtain ⟨g,u1,e1,q1,d1⟩:=yabn u h
 have hg:=yk.1 q1
 obtain ⟨r2,u2,e2,q2,d2⟩:=yp u1 3 d1
 obtain ⟨r3,u3,e3,_,d3⟩:=yfe u2 [0,1,2,3,60000] d2 (by simp)
 obtain ⟨r4,u4,e4,_,d4⟩:=yp u3 g.1 d3
 obtain ⟨r5,u5,e5,_,d5⟩:=yfe u4 [0,1,5,60000] d4 (by simp)
 obtain ⟨r6,u6,e6,d6⟩:=yMP u5 2 d5
 simp only [e1,e2,e3,e4,e5,e6,zkc]
 cases r6
 ·exact ⟨_,_,rfl,d6⟩
 ·obtain ⟨r7,u7,e7,_,d7⟩:=yp u6 g.1 d6
  obtain ⟨r8,u8,e8,_,d8⟩:=yp u7 (IntKind.i64.wrap (g.2+1)) d7
  simp only [cond_true,e7,e8,zkc]
  exact ⟨_,_,rfl,d8⟩
end
section
def ypz:Code:=(Tryz.f149.body).getD .skip
def ywe:Env:=zj2 TT [(140,ymi),(150,ym),(162,yvk),(211,yB2),(232,yoD),(233,yKG)] []
theorem yYb:FrOk Tryz.prog ⟨ywe,82,fun _=>none⟩ ypz:=zj6 yc yd ⟨yxL,yv,yIC,yPt,yAf,y6T,trivial⟩
def yJP:Nat→Option Seg:=fun _=>none
def yea:Shape:=⟨[(5,false,[.at 800000000])],[(1000000000,[.fz tY,.int .i64,.int .i64])],[(800000000,tM,.fz)]⟩
def yh1:Shape:=⟨[(5,false,[.at 800000000])],[(1000000000,[.fz tY,.int .i64,.int .i64])],[(800000000,tM,.fz)]⟩
def yoB:Shape:=⟨[],[],[]⟩
abbrev yM1 (v0:dU) (v1:List dM):(yea).X:=((((),()),()),((v0.1,v0.2.1,v0.2.2,()),()),(v1,()))
abbrev yMY (v0:dU) (v1:List dM):(yh1).X:=((((),()),()),((v0.1,v0.2.1,v0.2.2,()),()),(v1,()))
def yoa (v0:List Int) (v1 v2:Int) (v3:List dM):Option ((yh1).X ⊕ (yoB).X) :=
 bif (inb 0 v3.length) then
 bif (inb 1 v3.length) then
 bif (inb 0 v3.length) then
 let r14:=(v3.set (0:Int).toNat ((nth v3 1 ([],[],false,[])).1,((nth v3 1 ([],[],false,[])).2).1,(((nth v3 1 ([],[],false,[])).2).2)))
 bif (inb 1 r14.length) then
 let r15:=(r14.set (1:Int).toNat ((nth v3 0 ([],[],false,[])).1,((nth v3 0 ([],[],false,[])).2).1,(((nth v3 0 ([],[],false,[])).2).2)))
 some (.inl ((((),()),()),((v0,v1,v2,()),()),(r15,())))
 else none
 else none
 else none
 else none
def yh0 (x:(yea).X):=yoa x.2.1.1.1 x.2.1.1.2.1 x.2.1.1.2.2.1 x.2.2.1
def yyp:Seg:=⟨yea,yh1,yoB,yh0⟩
def yzm:Code:=(zdD ypz 64 503806).getD .skip
theorem yNu:zdD ypz 64 503806=some yzm:=by kernel_rfl
theorem yN9 (x:(yea).X):zih ⟨ywe,82,yJP⟩ yzm 503806 yea yh1 yoB x=yh0 x:=by kernel_rfl
def yJQ:Nat→Option Seg:=fun q=>bif Nat.beq q 503806 then some yyp else yJP q
theorem yYc:FrOk Tryz.prog ⟨ywe,82,yJQ⟩ ypz:=(yYb).part (sg:=yyp) (by decide) yNu yN9
abbrev ypW:List Par:= [.pt tU .fz,.rd tI]
abbrev ywT:List OT:= [⟨false,tMs,(.ow .fz)⟩]
def yct (a0:dU) (a1:Int):Option (ResD ywT×MutD ypW) :=
 bnd (ycn a0 a1) fun r1 =>
 bnd (yb r1.2.1 (r1.1.1.2.2.1.length:Int)) fun r2 =>
 bnd (yb r2.2.1 14) fun r3 =>
 bif (r3.1.1==0) then
 bif (inb r2.1.1 r1.1.1.2.2.1.length) then
 let r4:=yin ((nth r1.1.1.2.2.1 r2.1.1 ([],[],false,[])).1,((nth r1.1.1.2.2.1 r2.1.1 ([],[],false,[])).2).1,(((nth r1.1.1.2.2.1 r2.1.1 ([],[],false,[])).2).2))
 bif (inb r2.1.1 r1.1.1.2.2.1.length) then
 some (((r1.1.1.2.2.1.set (r2.1.1).toNat r4),()),(r3.2.1,()))
 else none
 else none
 else
 bif (r3.1.1==1) then
 bif (zjv 1 (r1.1.1.2.2.1.length:Int) r1.1.1.2.2.1.length) then
 some ((((r1.1.1.2.2.1.drop (1:Int).toNat).take ((r1.1.1.2.2.1.length:Int) - 1).toNat),()),(r3.2.1,()))
 else none
 else
 bif (r3.1.1==2) then
 bif (inb r2.1.1 r1.1.1.2.2.1.length) then
 bnd (yb r3.2.1 2) fun r5 =>
 bnd (yg2 r5.2.1) fun r6 =>
 let r7:=yJ r6.1.1
 bif (inb r5.1.1 ((nth r1.1.1.2.2.1 r2.1.1 ([],[],false,[])).1).length) then
 let r8:=(r1.1.1.2.2.1.set (r2.1.1).toNat ((((nth r1.1.1.2.2.1 r2.1.1 ([],[],false,[])).1).set (r5.1.1).toNat r7),((nth r1.1.1.2.2.1 r2.1.1 ([],[],false,[])).2).1,(((nth r1.1.1.2.2.1 r2.1.1 ([],[],false,[])).2).2).1,(((nth r1.1.1.2.2.1 r2.1.1 ([],[],false,[])).2).2).2))
 some ((r8,()),(r6.2.1,()))
 else none
 else none
 else
 bif (r3.1.1==3) then
 bif (inb r2.1.1 r1.1.1.2.2.1.length) then
 bif (inb 0 ((nth r1.1.1.2.2.1 r2.1.1 ([],[],false,[])).1).length) then
 let r9:=(r1.1.1.2.2.1.set (r2.1.1).toNat ((((nth r1.1.1.2.2.1 r2.1.1 ([],[],false,[])).1).set (0:Int).toNat ([]:List Int)),((nth r1.1.1.2.2.1 r2.1.1 ([],[],false,[])).2).1,(((nth r1.1.1.2.2.1 r2.1.1 ([],[],false,[])).2).2).1,(((nth r1.1.1.2.2.1 r2.1.1 ([],[],false,[])).2).2).2))
 bif (inb r2.1.1 r9.length) then
 bif (inb 1 ((nth r9 r2.1.1 ([],[],false,[])).1).length) then
 let r10:=(r9.set (r2.1.1).toNat ((((nth r9 r2.1.1 ([],[],false,[])).1).set (1:Int).toNat ([]:List Int)),((nth r9 r2.1.1 ([],[],false,[])).2).1,(((nth r9 r2.1.1 ([],[],false,[])).2).2).1,(((nth r9 r2.1.1 ([],[],false,[])).2).2).2))
 some ((r10,()),(r3.2.1,()))
 else none
 else none
 else none
 else none
 else
 bif (r3.1.1==4) then
 bnd (yfM r3.2.1) fun r11 =>
 bif (inb r2.1.1 r1.1.1.2.2.1.length) then
 some (((r1.1.1.2.2.1.set (r2.1.1).toNat r11.1.1),()),(r11.2.1,()))
 else none
 else
 bif (r3.1.1==5) then
 zjY (yh0 ((((),()),()),((r3.2.1.1,r3.2.1.2.1,r3.2.1.2.2,()),()),(r1.1.1.2.2.1,()))) (fun y15 =>
 some ((y15.2.2.1,()),((y15.2.1.1.1,y15.2.1.1.2.1,y15.2.1.1.2.2.1),()))) (fun y15 =>
 none)
 else
 some ((r1.1.1.2.2.1,()),(r3.2.1,()))
theorem y8t (x:InD ypW):zjw ⟨ywe,82,yJQ⟩ Tryz.f149.results.toList ypz ypW ywT x=yct x.1 x.2.1:=by kernel_rfl
theorem y3U:ConOk Tryz.prog 149 ⟨ypW,ywT,fun x=>yct x.1 x.2.1⟩:=zj1 (yYc) Tryz.func149 (by kernel_rfl) (by kernel_rfl) Tryz.ntmps149.symm (by decide) (fun x r h=>(y8t x).trans h)
def yrY:Con:=⟨ypW,ywT,fun x=>yct x.1 x.2.1⟩
theorem yCg:ConOk Tryz.prog 149 yrY:=y3U
def LM (l:List dM):Prop:=l.length≤5∧ ∀ m∈l,m.1.length≤1000∧m.2.1.length≤1000
theorem yace {l:List dM} (h:l.length≤5) (hm:yan l):LM l:=⟨h,fun m hm2=>by
 obtain ⟨_,_,_,_,h5,h6⟩:=yaw (hm m hm2)
 omega⟩
theorem yIg {l:List dM} {m:dM} {k:Nat} (h:LM l) (h1:m.1.length≤1000) (h2:m.2.1.length≤1000):LM (l.set k m):=⟨by rw [List.length_set]; exact h.1,fun x hx=>by
 rcases List.mem_or_eq_of_mem_set hx with g | rfl
 ·exact h.2 x g
 ·exact ⟨h1,h2⟩⟩
theorem yRn (u:dU) (most:Int) (h:yA u) (h0:0≤most) (h1:most≤12): ∃ (l:List dM) (u':dU),yct u most=some ((l,()),(u',()))∧LM l∧yA u':=by
 unfold yct
 obtain ⟨a,u1,e1,⟨q1,qs⟩,q2,d1⟩:=yWo u most h h0 h1
 obtain ⟨k,u2,e2,q3,d2⟩:=yp u1 (a.2.2.1.length:Int) d1
 obtain ⟨r,u3,e3,_,d3⟩:=yp u2 14 d2
 have hk:inb k a.2.2.1.length=true:=zjC.2 ⟨q3.1,q3.2.1 (by omega)⟩
 have hL:LM a.2.2.1:=yace q1.1 q1.2.1
 have hm:=yfH (P:=fun m:dM=>yu m=true) (d:=noMem) hk q1.2.1
 obtain ⟨_,_,_,p4,p5,p6⟩:=yaw hm
 simp only [e1,e2,e3,zkc,hk]
 cases (r==0)
 ·cases (r==1)
  ·cases (r==2)
   ·cases (r==3)
    ·cases (r==4)
     ·cases (r==5)
      ·exact ⟨_,_,rfl,hL,d3⟩
      ·simp only [cond_true,cond_false]
       have hF:yh0 (yM1 u3 a.2.2.1)=some (.inl (yMY u3 ((a.2.2.1.set 0 (nth a.2.2.1 1 noMem)).set 1 (nth a.2.2.1 0 noMem)))):=by
        show yoa _ _ _ _=_
        unfold yoa
        rw [zjC.2 (show (0:Int)≤0∧(0:Int) < (a.2.2.1.length:Int) by omega),zjC.2 (show (0:Int)≤1∧(1:Int) < (a.2.2.1.length:Int) by omega)]
        simp only [cond_true]
        rw [zjC.2 (show (0:Int)≤1∧(1:Int) < ((a.2.2.1.set (0:Int).toNat _).length:Int) by rw [List.length_set]; omega)]
        rfl
       have hn1:=yfH (P:=fun m:dM=>m.1.length≤1000∧m.2.1.length≤1000) (d:=noMem) (i:=1) (zjC.2 (show (0:Int)≤1∧(1:Int) < (a.2.2.1.length:Int) by omega)) hL.2
       have hn0:=yfH (P:=fun m:dM=>m.1.length≤1000∧m.2.1.length≤1000) (d:=noMem) (i:=0) (zjC.2 (show (0:Int)≤0∧(0:Int) < (a.2.2.1.length:Int) by omega)) hL.2
       refine ⟨_,_,(congrArg (fun z=>zjY z _ _) hF).trans rfl,yIg (yIg hL hn1.1 hn1.2) hn0.1 hn0.2,d3⟩
     ·obtain ⟨x,u4,e4,q4,d4⟩:=y9i u3 d3
      simp only [cond_true,cond_false,e4,zkc]
      exact ⟨_,_,rfl,yIg hL (by omega) (by omega),d4⟩
    ·have hs2:=yfH (P:=fun m:dM=>2≤m.1.length) (d:=noMem) hk qs
     have hki:=zjC.1 hk
     have hset: ∀ M:dM,nth (a.2.2.1.set k.toNat M) k noMem=M:=fun M=>by
      unfold nth
      rw [zkd (by rw [List.length_set]; omega),List.getElem_set_self]
     simp only [cond_true,cond_false]
     rw [zjC.2 (show (0:Int)≤0∧(0:Int) < ((nth a.2.2.1 k noMem).1.length:Int) by omega)]
     simp only [cond_true,hset]
     rw [zjC.2 (show 0≤k∧k < ((a.2.2.1.set k.toNat (((nth a.2.2.1 k noMem).1.set (0:Int).toNat []),(nth a.2.2.1 k noMem).2)).length:Int) by rw [List.length_set]; omega)]
     simp only [cond_true]
     rw [zjC.2 (show (0:Int)≤1∧(1:Int) < ((((nth a.2.2.1 k noMem).1.set (0:Int).toNat [])).length:Int) by rw [List.length_set]; omega)]
     refine ⟨_,_,rfl,yIg (yIg hL ?_ ?_) ?_ ?_,d3⟩
     ·show ((nth a.2.2.1 k noMem).1.set _ _).length≤1000; rw [List.length_set]; omega
     ·show (nth a.2.2.1 k noMem).2.1.length≤1000; omega
     ·show (((nth a.2.2.1 k noMem).1.set _ _).set _ _).length≤1000; rw [List.length_set,List.length_set]; omega
     ·show (nth a.2.2.1 k noMem).2.1.length≤1000; omega
   ·have hs2:=yfH (P:=fun m:dM=>2≤m.1.length) (d:=noMem) hk qs
    obtain ⟨x,u4,e4,q4,d4⟩:=yp u3 2 d3
    obtain ⟨z,u5,e5,d5⟩:=yabq u4 d4
    have:=q4.1; have:=q4.2.1 (by omega)
    simp only [cond_true,cond_false,e4,e5,zkc]
    rw [zjC.2 (show 0≤x∧x < ((nth a.2.2.1 k noMem).1.length:Int) by omega)]
    refine ⟨_,_,rfl,yIg hL ?_ ?_,d5⟩
    ·show ((nth a.2.2.1 k noMem).1.set _ _).length≤1000; rw [List.length_set]; omega
    ·show (nth a.2.2.1 k noMem).2.1.length≤1000; omega
  ·rw [zj5.2 (show (0:Int)≤1∧(1:Int)≤(a.2.2.1.length:Int)∧(a.2.2.1.length:Int)≤(a.2.2.1.length:Int) by omega)]
   simp only [cond_true,cond_false]
   refine ⟨_,_,rfl,⟨?_,fun m hm=>hL.2 m (List.mem_of_mem_drop (List.mem_of_mem_take hm))⟩,d3⟩
   rw [List.length_take,List.length_drop]
   have:=hL.1
   omega
 ·simp only [cond_true]
  exact ⟨_,_,rfl,yIg hL (by show (nth a.2.2.1 k noMem).1.length≤1000; omega) (Nat.zero_le _),d3⟩
theorem y5D {l:List dM} (id:Int) (h:LM l):ygR (ycm l id).1:=by
 unfold ycm
 cases ((yam l id).2&&((l.length:Int)==(yam l id).1.2.2.2.1&&yE (yMD l id)))
 ·exact ⟨Nat.zero_le _,fun m hm=>absurd hm List.not_mem_nil,Nat.zero_le _⟩
 ·refine ⟨by show l.length≤_; have:=h.1; omega,fun m hm=> ?_,Nat.zero_le _⟩
  have:=h.2 m hm
  omega
theorem yNH {a:dA} (h:ygR a):ygR (yqm a):=by
 cases ha:yE a
 ·unfold yqm; rw [ha]; exact h
 ·exact y9R (yaas (yYH ha)) h.2.2
theorem yacu {a:dA} (f:Int) (b:Bool) (h:ygR a):ygR (yAy a f b):=h
theorem yabZ (b:Nat→Bool) (c:List dW) (l:List (List Int)):(ybP b c l).length=l.length:=by
 unfold ybP
 have: ∀ n,((List.range n).foldl (ybH b c) l).length=l.length:=by
  intro n
  induction n with
  | zero=>rfl
  | succ n ih =>
   rw [List.range_succ,List.foldl_append]
   show (ybH b c _ n).length=_
   unfold ybH
   cases b n
   ·exact ih
   ·rw [cond_true,List.length_set]; exact ih
 exact this _
theorem yaaK {l:List dM} (ks:List Int) (h:LM l):LM (ybf l ks):=by
 unfold ybf
 refine ⟨by rw [List.length_map,List.length_range]; exact h.1,fun m hm=> ?_⟩
 obtain ⟨i,hi,rfl⟩:=List.mem_map.1 hm
 have hi:=List.mem_range.1 hi
 have hn:=yfH (P:=fun m:dM=>m.1.length≤1000∧m.2.1.length≤1000) (d:=noMem) (zkl hi) h.2
 unfold ygU
 cases yu (nth l i noMem)
 ·exact hn
 ·exact ⟨by show (ybP _ _ _).length≤1000; rw [yabZ]; exact hn.1,Nat.zero_le _⟩
theorem yaar {l:List dM} (ks:List Int) (id f:Int) (h:LM l):ygR (yCt l ks id f).1:=by
 have hl:=y5D id (yaaK ks h)
 unfold yCt
 cases (ycm (ybf l ks) id).2
 ·exact ⟨Nat.zero_le _,fun m hm=>absurd hm List.not_mem_nil,Nat.zero_le _⟩
 ·cases (leb (-1) f&&leb f 1000)
  ·exact yNH hl
  ·exact yNH (yacu _ _ hl)
end
section
def yAO:Code:=(Tryz.f57.body).getD .skip
def yAS:Env:=zj2 TT [(94,yds),(96,ycp),(149,yrY),(150,ym)] []
theorem yLs:FrOk Tryz.prog ⟨yAS,14,fun _=>none⟩ yAO:=zj6 yc yd ⟨yhb,yfJ,yCg,yv,trivial⟩
def yL0:Nat→Option Seg:=fun _=>none
abbrev yeU:List Par:= [.kp tYs .fz]
abbrev yjo:List OT:= [⟨false,tMs,(.ow .fz)⟩,⟨false,tI,.fz⟩]
def ybg (a0:List Int):Option (ResD yjo×MutD yeU) :=
 let r1:=yaO a0
 let r2:=yaq a0 12
 bnd (yct r1 r2) fun r3 =>
 bnd (yb r3.2.1 2) fun r4 =>
 some ((r3.1.1,(IntKind.i64.wrap (1+r4.1.1)),()),())
theorem yPK (x:InD yeU):zjw ⟨yAS,14,yL0⟩ Tryz.f57.results.toList yAO yeU yjo x=ybg x.1:=by kernel_rfl
theorem yM4:ConOk Tryz.prog 57 ⟨yeU,yjo,fun x=>ybg x.1⟩:=zj1 (yLs) Tryz.func57 (by kernel_rfl) (by kernel_rfl) Tryz.ntmps57.symm (by decide) (fun x r h=>(yPK x).trans h)
def yye:Con:=⟨yeU,yjo,fun x=>ybg x.1⟩
theorem yN4:ConOk Tryz.prog 57 yye:=yM4
theorem y09 (a0:List Int) (hb:a0.length≤140737488355328): ∃ (l:List dM) (id:Int),ybg a0=some ((l,id,()),())∧LM l:=by
 unfold ybg
 obtain ⟨h1,h2⟩:=yB7 a0 12 (by omega) hb
 obtain ⟨l,u1,e1,q1,d1⟩:=yRn _ _ (yHH a0 hb) h1 (by omega)
 obtain ⟨x,u2,e2,_,d2⟩:=yp u1 2 d1
 simp only [e1,e2,zkc]
 exact ⟨_,_,rfl,q1⟩
end
section
def yJg:Code:=(Tryz.f274.body).getD .skip
def yJ1:Env:=zj2 TT [(226,yxo)] []
theorem yRZ:FrOk Tryz.prog ⟨yJ1,46,fun _=>none⟩ yJg:=zj6 yc yd ⟨yLa,trivial⟩
def yTC:Nat→Option Seg:=fun _=>none
abbrev ygK:List Par:= [.rd tL]
abbrev yrz:List OT:= [⟨false,tS,(.pr .fz (.pr .fz (.pr .fz (.pr .fz (.pr .fz (.pr .fz (.pr .fz .fz)))))))⟩,⟨false,tB,.fz⟩]
def ymB (a0:List Int):Option (ResD yrz×MutD ygK) :=
 bif (!((a0.length:Int) !=9)) then
 bif (inb 0 a0.length) then
 bif ((nth a0 0 0) !=21317) then
 some (((0,0,0,0,0,0,0,0),false,()),())
 else
 bif (inb 1 a0.length) then
 bif (inb 2 a0.length) then
 bif (inb 3 a0.length) then
 bif (inb 4 a0.length) then
 bif (inb 5 a0.length) then
 bif (inb 6 a0.length) then
 bif (inb 7 a0.length) then
 bif (inb 8 a0.length) then
 let r1:=yC ((nth a0 1 0),(nth a0 2 0),(nth a0 3 0),(nth a0 4 0),(nth a0 5 0),(nth a0 6 0),(IntKind.i64.wrap ((nth a0 7 0) - 1)),(nth a0 8 0))
 bif (!r1) then
 some (((0,0,0,0,0,0,0,0),false,()),())
 else
 some ((((nth a0 1 0),(nth a0 2 0),(nth a0 3 0),(nth a0 4 0),(nth a0 5 0),(nth a0 6 0),(IntKind.i64.wrap ((nth a0 7 0) - 1)),(nth a0 8 0)),true,()),())
 else none
 else none
 else none
 else none
 else none
 else none
 else none
 else none
 else none
 else
 some (((0,0,0,0,0,0,0,0),false,()),())
theorem y1v (x:InD ygK):zjw ⟨yJ1,46,yTC⟩ Tryz.f274.results.toList yJg ygK yrz x=ymB x.1:=by kernel_rfl
theorem yVG:ConOk Tryz.prog 274 ⟨ygK,yrz,fun x=>ymB x.1⟩:=zj1 (yRZ) Tryz.func274 (by kernel_rfl) (by kernel_rfl) Tryz.ntmps274.symm (by decide) (fun x r h=>(y1v x).trans h)
def ylw (a0:List Int):dS×Bool:=yee a0
theorem yYZ (a0:List Int) (hk:zi1 ygK (a0,())):ymB a0=(fun n=>some ((n.1,n.2,()),())) (ylw a0):=by
 unfold ymB ylw yee
 by_cases h:(a0.length:Int)=9
 ·simp only [bne,h,beq_self_eq_true,zjC.2 (show (0:Int)≤0∧(0:Int) < a0.length by omega),zjC.2 (show (0:Int)≤1∧(1:Int) < a0.length by omega),zjC.2 (show (0:Int)≤2∧(2:Int) < a0.length by omega),zjC.2 (show (0:Int)≤3∧(3:Int) < a0.length by omega),zjC.2 (show (0:Int)≤4∧(4:Int) < a0.length by omega),zjC.2 (show (0:Int)≤5∧(5:Int) < a0.length by omega),zjC.2 (show (0:Int)≤6∧(6:Int) < a0.length by omega),zjC.2 (show (0:Int)≤7∧(7:Int) < a0.length by omega),zjC.2 (show (0:Int)≤8∧(8:Int) < a0.length by omega)]
  rw [show yC (nth a0 1 0,nth a0 2 0,nth a0 3 0,nth a0 4 0,nth a0 5 0,nth a0 6 0,IntKind.i64.wrap (nth a0 7 0 - 1),nth a0 8 0)=yC (yGz a0) from rfl]
  cases (nth a0 0 0==21317)<;>cases yC (yGz a0)<;>rfl
 ·rw [show ((a0.length:Int) !=9)=true from bne_iff_ne.2 h,show ((a0.length:Int)==9)=false from beq_eq_false_iff_ne.2 h]; rfl
def yFB:Con:=⟨ygK,yrz,fun x=>(fun n=>some ((n.1,n.2,()),())) (ylw x.1)⟩
theorem yZQ:ConOk Tryz.prog 274 yFB:=(yVG).mono (fun x r hk h=>(yYZ x.1 hk).trans h)
end
section
def yiy:Code:=(Tryz.f235.body).getD .skip
def yoh:Env:=zj2 TT [(159,yoE),(274,yFB)] []
theorem yPW:FrOk Tryz.prog ⟨yoh,60,fun _=>none⟩ yiy:=zj6 yc yd ⟨yAg,yZQ,trivial⟩
def yCP:Nat→Option Seg:=fun _=>none
def ya5:Shape:=⟨[(1,false,[.int .i64]),(2,false,[.ptr 0 0]),(4,false,[.ptr 64 0]),(6,false,[.ptr 4160 0]),(7,false,[.bool]),(8,false,[.int .i64])],[(0,[.br tL,.br tW,.bool,.br tI]),(64,[.int .i64,.int .i64,.int .i64,.int .i64,.int .i64,.int .i64,.int .i64,.int .i64]),(4160,[.int .i64,.int .i64,.int .i64,.int .i64,.int .i64,.int .i64,.int .i64,.int .i64])],[]⟩
def yfb:Shape:=⟨[(1,false,[.int .i64]),(2,false,[.ptr 0 0]),(4,false,[.ptr 64 0]),(6,false,[.ptr 4160 0]),(7,false,[.cb false]),(8,false,[.ci .i64 0])],[(0,[.br tL,.br tW,.bool,.br tI]),(64,[.int .i64,.int .i64,.int .i64,.int .i64,.int .i64,.int .i64,.int .i64,.int .i64]),(4160,[.int .i64,.int .i64,.int .i64,.int .i64,.int .i64,.int .i64,.int .i64,.int .i64])],[]⟩
def ye2:Shape:=⟨[(4,false,[.ptr 64 0]),(6,false,[.ptr 4160 0]),(7,false,[.bool])],[(64,[.int .i64,.int .i64,.int .i64,.int .i64,.int .i64,.int .i64,.int .i64,.int .i64]),(4160,[.int .i64,.int .i64,.int .i64,.int .i64,.int .i64,.int .i64,.int .i64,.int .i64])],[]⟩
def yjw:Shape:=⟨[],[],[]⟩
abbrev yoN (v0:Int) (v1:Bool) (v2:Int) (v3:dM) (v4 v5:dS):(ya5).X:=(((v0,()),((),()),((),()),((),()),(v1,()),(v2,()),()),((v3.1,v3.2.1,v3.2.2.1,v3.2.2.2,()),(v4.1,v4.2.1,v4.2.2.1,v4.2.2.2.1,v4.2.2.2.2.1,v4.2.2.2.2.2.1,v4.2.2.2.2.2.2.1,v4.2.2.2.2.2.2.2,()),(v5.1,v5.2.1,v5.2.2.1,v5.2.2.2.1,v5.2.2.2.2.1,v5.2.2.2.2.2.1,v5.2.2.2.2.2.2.1,v5.2.2.2.2.2.2.2,()),()),())
abbrev yNU (v0:Int) (v1:dM) (v2 v3:dS):(yfb).X:=(((v0,()),((),()),((),()),((),()),((),()),((),()),()),((v1.1,v1.2.1,v1.2.2.1,v1.2.2.2,()),(v2.1,v2.2.1,v2.2.2.1,v2.2.2.2.1,v2.2.2.2.2.1,v2.2.2.2.2.2.1,v2.2.2.2.2.2.2.1,v2.2.2.2.2.2.2.2,()),(v3.1,v3.2.1,v3.2.2.1,v3.2.2.2.1,v3.2.2.2.2.1,v3.2.2.2.2.2.1,v3.2.2.2.2.2.2.1,v3.2.2.2.2.2.2.2,()),()),())
abbrev yNL (v0:Bool) (v1 v2:dS):(ye2).X:=((((),()),((),()),(v0,()),()),((v1.1,v1.2.1,v1.2.2.1,v1.2.2.2.1,v1.2.2.2.2.1,v1.2.2.2.2.2.1,v1.2.2.2.2.2.2.1,v1.2.2.2.2.2.2.2,()),(v2.1,v2.2.1,v2.2.2.1,v2.2.2.2.1,v2.2.2.2.2.1,v2.2.2.2.2.2.1,v2.2.2.2.2.2.2.1,v2.2.2.2.2.2.2.2,()),()),())
def ypm (v0:Int) (v1:Bool) (v2:Int) (v3:List (List Int)) (v4:List dW) (v5:Bool) (v6:List Int) (v7 v8 v9 v10 v11 v12 v13 v14 v15 v16 v17 v18 v19 v20 v21 v22:Int):Option ((ya5).X ⊕ ((ye2).X ⊕ (yjw).X)) :=
 bif (ltb v2 2) then
 let r3:=ybQ (v3,v4,v5,v6) v2
 let r4:=ylw r3.1
 bif r3.2 then
 bif r4.2 then
 bif (r4.1.1==v0) then
 bif ((r4.1.2.1.tmod 2)==v2) then
 bif (!(!v1)) then
 bif (ltb v16 r4.1.2.1) then
 some (.inl (((v0,()),((),()),((),()),((),()),(true,()),((IntKind.i64.wrap (v2+1)),()),()),((v3,v4,v5,v6,()),(v7,v8,v9,v10,v11,v12,v13,v14,()),(r4.1.1,r4.1.2.1,r4.1.2.2.1,r4.1.2.2.2.1,r4.1.2.2.2.2.1,r4.1.2.2.2.2.2.1,r4.1.2.2.2.2.2.2.1,r4.1.2.2.2.2.2.2.2,()),()),()))
 else
 some (.inl (((v0,()),((),()),((),()),((),()),(v1,()),((IntKind.i64.wrap (v2+1)),()),()),((v3,v4,v5,v6,()),(v7,v8,v9,v10,v11,v12,v13,v14,()),(v15,v16,v17,v18,v19,v20,v21,v22,()),()),()))
 else
 some (.inl (((v0,()),((),()),((),()),((),()),(true,()),((IntKind.i64.wrap (v2+1)),()),()),((v3,v4,v5,v6,()),(v7,v8,v9,v10,v11,v12,v13,v14,()),(r4.1.1,r4.1.2.1,r4.1.2.2.1,r4.1.2.2.2.1,r4.1.2.2.2.2.1,r4.1.2.2.2.2.2.1,r4.1.2.2.2.2.2.2.1,r4.1.2.2.2.2.2.2.2,()),()),()))
 else
 some (.inl (((v0,()),((),()),((),()),((),()),(v1,()),((IntKind.i64.wrap (v2+1)),()),()),((v3,v4,v5,v6,()),(v7,v8,v9,v10,v11,v12,v13,v14,()),(v15,v16,v17,v18,v19,v20,v21,v22,()),()),()))
 else
 some (.inl (((v0,()),((),()),((),()),((),()),(v1,()),((IntKind.i64.wrap (v2+1)),()),()),((v3,v4,v5,v6,()),(v7,v8,v9,v10,v11,v12,v13,v14,()),(v15,v16,v17,v18,v19,v20,v21,v22,()),()),()))
 else
 some (.inl (((v0,()),((),()),((),()),((),()),(v1,()),((IntKind.i64.wrap (v2+1)),()),()),((v3,v4,v5,v6,()),(v7,v8,v9,v10,v11,v12,v13,v14,()),(v15,v16,v17,v18,v19,v20,v21,v22,()),()),()))
 else
 some (.inl (((v0,()),((),()),((),()),((),()),(v1,()),((IntKind.i64.wrap (v2+1)),()),()),((v3,v4,v5,v6,()),(v7,v8,v9,v10,v11,v12,v13,v14,()),(v15,v16,v17,v18,v19,v20,v21,v22,()),()),()))
 else
 some (.inr (.inl ((((),()),((),()),(v1,()),()),((v7,v8,v9,v10,v11,v12,v13,v14,()),(v15,v16,v17,v18,v19,v20,v21,v22,()),()),())))
def ybo (x:(ya5).X):=ypm x.1.1.1 x.1.2.2.2.2.1.1 x.1.2.2.2.2.2.1.1 x.2.1.1.1 x.2.1.1.2.1 x.2.1.1.2.2.1 x.2.1.1.2.2.2.1 x.2.1.2.1.1 x.2.1.2.1.2.1 x.2.1.2.1.2.2.1 x.2.1.2.1.2.2.2.1 x.2.1.2.1.2.2.2.2.1 x.2.1.2.1.2.2.2.2.2.1 x.2.1.2.1.2.2.2.2.2.2.1 x.2.1.2.1.2.2.2.2.2.2.2.1 x.2.1.2.2.1.1 x.2.1.2.2.1.2.1 x.2.1.2.2.1.2.2.1 x.2.1.2.2.1.2.2.2.1 x.2.1.2.2.1.2.2.2.2.1 x.2.1.2.2.1.2.2.2.2.2.1 x.2.1.2.2.1.2.2.2.2.2.2.1 x.2.1.2.2.1.2.2.2.2.2.2.2.1
def yzK (x:(yfb).X):(ya5).X:=(((x.1.1.1,()),((),()),((),()),((),()),(false,()),(0,()),()),((x.2.1.1.1,x.2.1.1.2.1,x.2.1.1.2.2.1,x.2.1.1.2.2.2.1,()),(x.2.1.2.1.1,x.2.1.2.1.2.1,x.2.1.2.1.2.2.1,x.2.1.2.1.2.2.2.1,x.2.1.2.1.2.2.2.2.1,x.2.1.2.1.2.2.2.2.2.1,x.2.1.2.1.2.2.2.2.2.2.1,x.2.1.2.1.2.2.2.2.2.2.2.1,()),(x.2.1.2.2.1.1,x.2.1.2.2.1.2.1,x.2.1.2.2.1.2.2.1,x.2.1.2.2.1.2.2.2.1,x.2.1.2.2.1.2.2.2.2.1,x.2.1.2.2.1.2.2.2.2.2.1,x.2.1.2.2.1.2.2.2.2.2.2.1,x.2.1.2.2.1.2.2.2.2.2.2.2.1,()),()),())
def yA0:Code:=(zdD yiy 64 244).getD .skip
theorem yPH:zdD yiy 64 61=some (.block 0 (.loop yA0)):=by kernel_rfl
theorem yQx (x:(ya5).X):zg0 ⟨yoh,60,yCP⟩ 0 yA0 244 ya5 ye2 yjw x=ybo x:=by kernel_rfl
def yzV (x:(yfb).X):Nat:=18446744073709551616
def yqA (x:(yfb).X):Option ((ye2).X ⊕ (yjw).X):=zz ybo (yzV x) (yzK x)
def yAF:Seg:=⟨yfb,ye2,yjw,yqA⟩
def yCQ:Nat→Option Seg:=fun q=>bif Nat.beq q 61 then some yAF else yCP q
theorem yPX:FrOk Tryz.prog ⟨yoh,60,yCQ⟩ yiy:=(yPW).loop (sg:=yAF) ya5 yzK (by decide) yPH ybo yzV (by decide) (fun _=>rfl) (fun x r _ h=>h) yQx
abbrev yfm:List Par:= [.rd tM,.rd tI]
abbrev yop:List OT:= [⟨false,tS,(.pr .fz (.pr .fz (.pr .fz (.pr .fz (.pr .fz (.pr .fz (.pr .fz .fz)))))))⟩,⟨false,tB,.fz⟩]
def ylK (a0:dM) (a1:Int):Option (ResD yop×MutD yfm) :=
 zjY (yqA (((a1,()),((),()),((),()),((),()),((),()),((),()),()),((a0.1,a0.2.1,a0.2.2.1,a0.2.2.2,()),(0,0,0,0,0,0,0,0,()),(0,0,0,0,0,0,0,0,()),()),())) (fun y4 =>
 some (((y4.2.1.2.1.1,y4.2.1.2.1.2.1,y4.2.1.2.1.2.2.1,y4.2.1.2.1.2.2.2.1,y4.2.1.2.1.2.2.2.2.1,y4.2.1.2.1.2.2.2.2.2.1,y4.2.1.2.1.2.2.2.2.2.2.1,y4.2.1.2.1.2.2.2.2.2.2.2.1),y4.1.2.2.1.1,()),())) (fun y4 =>
 none)
theorem yXa (x:InD yfm):zjw ⟨yoh,60,yCQ⟩ Tryz.f235.results.toList yiy yfm yop x=ylK x.1 x.2.1:=by kernel_rfl
theorem yST:ConOk Tryz.prog 235 ⟨yfm,yop,fun x=>ylK x.1 x.2.1⟩:=zj1 (yPX) Tryz.func235 (by kernel_rfl) (by kernel_rfl) Tryz.ntmps235.symm (by decide) (fun x r h=>(yXa x).trans h)
def yji (a0:dM) (a1:Int):dS×Bool:=yaW a0 a1
theorem yVl (a0:dM) (a1:Int) (hk:zi1 yfm (a0,a1,())):ylK a0 a1=(fun n=>some ((n.1,n.2,()),())) (yji a0 a1):=by
 have h1:=zj8 (step:=ybo) 2 (fun i s=>yoN a1 s.2 i a0 yaB s.1) (fun (s:dS×Bool) (i:Nat)=>yp0 s (yHq a0 a1 i) (yW1 a0 i)) (fun _ _=>True) (fun s=> .inl (yNL s.2 yaB s.1)) (fun i s hi _=>⟨by
  simp only [ybo,yoN,ypm,zj4 (show (i:Int) < 2 by omega),cond_true,wr (show -9223372036854775808≤(i:Int)+1 by omega) (by omega),Int.natCast_add,Int.natCast_one,Int.toNat_natCast,zkr,ybQ,ylw]
  unfold yHq yp0 yW1
  cases (yr a0 i).2<;>cases (yee (yr a0 i).1).2<;>cases ((yee (yr a0 i).1).1.1==a1)<;>cases ((yee (yr a0 i).1).1.2.1.tmod 2==(i:Int))<;>cases hf:s.2<;>cases ltb s.1.2.1 (yee (yr a0 i).1).1.2.1<;>simp only [Bool.not_true,Bool.not_false,cond_true,cond_false,Bool.and_true,Bool.true_and,Bool.false_and,Bool.and_false,Bool.or_true,Bool.true_or,Bool.false_or,Bool.or_false,hf],trivial⟩) (fun s _=>by simp only [ybo,yoN,ypm]; rfl) (yaB,false) trivial 18446744073709551616 (by omega)
 unfold ylK yji
 rw [show yqA (yNU a1 a0 yaB yaB)=_ from h1]; rfl
def yDf:Con:=⟨yfm,yop,fun x=>(fun n=>some ((n.1,n.2,()),())) (yji x.1 x.2.1)⟩
theorem yVW:ConOk Tryz.prog 235 yDf:=(yST).mono (fun x r hk h=>(yVl x.1 x.2.1 hk).trans h)
end
section
def yLT:Code:=(Tryz.f153.body).getD .skip
def yMA:Env:=zj2 TT [(235,yDf)] []
theorem yUT:FrOk Tryz.prog ⟨yMA,33,fun _=>none⟩ yLT:=zj6 yc yd ⟨yVW,trivial⟩
def yWN:Nat→Option Seg:=fun _=>none
abbrev yfv:List Par:= [.rd tMs,.rd tI,.rd tI]
abbrev ynB:List OT:= [⟨false,tS,(.pr .fz (.pr .fz (.pr .fz (.pr .fz (.pr .fz (.pr .fz (.pr .fz .fz)))))))⟩,⟨false,tB,.fz⟩]
def ypf (a0:List dM) (a1 a2:Int):Option (ResD ynB×MutD yfv) :=
 bif (inb a1 a0.length) then
 bif (((nth a0 a1 ([],[],false,[])).2).2).1 then
 some (((0,0,0,0,0,0,0,0),false,()),())
 else
 bif (inb a1 a0.length) then
 let r1:=yji ((nth a0 a1 ([],[],false,[])).1,((nth a0 a1 ([],[],false,[])).2).1,(((nth a0 a1 ([],[],false,[])).2).2)) a2
 bif r1.2 then
 some ((r1.1,(r1.1.2.2.1==a1),()),())
 else
 some ((r1.1,false,()),())
 else none
 else none
theorem y5p (x:InD yfv):zjw ⟨yMA,33,yWN⟩ Tryz.f153.results.toList yLT yfv ynB x=ypf x.1 x.2.1 x.2.2.1:=by kernel_rfl
theorem yZF:ConOk Tryz.prog 153 ⟨yfv,ynB,fun x=>ypf x.1 x.2.1 x.2.2.1⟩:=zj1 (yUT) Tryz.func153 (by kernel_rfl) (by kernel_rfl) Tryz.ntmps153.symm (by decide) (fun x r h=>(y5p x).trans h)
def yir (a0:List dM) (a1 a2:Int):dS×Bool:=bif (nth a0 a1 noMem).2.2.1 then (yaB,false) else ((yaW (nth a0 a1 noMem) a2).1,yoT (nth a0 a1 noMem) a1 a2)
def yCm (a0:List dM) (a1 a2:Int):Bool:=inb a1 a0.length
theorem y3b (a0:List dM) (a1 a2:Int) (hk:zi1 yfv (a0,a1,a2,())) (hq:yCm a0 a1 a2=true):ypf a0 a1 a2=(fun n=>some ((n.1,n.2,()),())) (yir a0 a1 a2):=by
 unfold ypf yir yoT
 rw [show inb a1 a0.length=true from hq]
 simp only [zkr,yji]
 cases (nth a0 a1 noMem).2.2.1
 ·cases (yaW (nth a0 a1 noMem) a2).2<;>rfl
 ·rfl
def yn3 (a0:List dM) (a1 a2:Int):Option (ResD ynB×MutD yfv):=bif yCm a0 a1 a2 then (fun n=>some ((n.1,n.2,()),())) (yir a0 a1 a2) else none
theorem yLj (a0:List dM) (a1 a2:Int) (h:yCm a0 a1 a2=true):yn3 a0 a1 a2=(fun n=>some ((n.1,n.2,()),())) (yir a0 a1 a2):=by unfold yn3; rw [h]; rfl
def yxs:Con:=⟨yfv,ynB,fun x=>yn3 x.1 x.2.1 x.2.2.1⟩
theorem yLe:ConOk Tryz.prog 153 yxs:=(yZF).mono (fun x r hk h=>zks h (fun hq=>y3b x.1 x.2.1 x.2.2.1 hk hq))
end
section
def ypy:Code:=(Tryz.f151.body).getD .skip
def ywd:Env:=zj2 TT [(153,yxs)] []
theorem yX9:FrOk Tryz.prog ⟨ywd,40,fun _=>none⟩ ypy:=zj6 yc yd ⟨yLe,trivial⟩
def yJN:Nat→Option Seg:=fun _=>none
def yda:Shape:=⟨[(0,false,[.br tM]),(1,false,[.int .i64]),(4,false,[.ptr 0 0]),(6,false,[.ptr 4160 0]),(7,false,[.bool]),(8,false,[.int .i64])],[(0,[.int .i64,.int .i64,.int .i64,.int .i64,.int .i64,.int .i64,.int .i64,.int .i64]),(4160,[.int .i64,.int .i64,.int .i64,.int .i64,.int .i64,.int .i64,.int .i64,.int .i64])],[]⟩
def yi5:Shape:=⟨[(0,false,[.br tM]),(1,false,[.int .i64]),(4,false,[.ptr 0 0]),(6,false,[.ptr 4160 0]),(7,false,[.cb false]),(8,false,[.ci .i64 0])],[(0,[.int .i64,.int .i64,.int .i64,.int .i64,.int .i64,.int .i64,.int .i64,.int .i64]),(4160,[.int .i64,.int .i64,.int .i64,.int .i64,.int .i64,.int .i64,.int .i64,.int .i64])],[]⟩
def yiS:Shape:=⟨[(4,false,[.ptr 0 0]),(6,false,[.ptr 4160 0]),(7,false,[.bool])],[(0,[.int .i64,.int .i64,.int .i64,.int .i64,.int .i64,.int .i64,.int .i64,.int .i64]),(4160,[.int .i64,.int .i64,.int .i64,.int .i64,.int .i64,.int .i64,.int .i64,.int .i64])],[]⟩
def yoA:Shape:=⟨[],[],[]⟩
abbrev yvu (v0:List dM) (v1:Int) (v2:Bool) (v3:Int) (v4 v5:dS):(yda).X:=(((v0,()),(v1,()),((),()),((),()),(v2,()),(v3,()),()),((v4.1,v4.2.1,v4.2.2.1,v4.2.2.2.1,v4.2.2.2.2.1,v4.2.2.2.2.2.1,v4.2.2.2.2.2.2.1,v4.2.2.2.2.2.2.2,()),(v5.1,v5.2.1,v5.2.2.1,v5.2.2.2.1,v5.2.2.2.2.1,v5.2.2.2.2.2.1,v5.2.2.2.2.2.2.1,v5.2.2.2.2.2.2.2,()),()),())
abbrev yVd (v0:List dM) (v1:Int) (v2 v3:dS):(yi5).X:=(((v0,()),(v1,()),((),()),((),()),((),()),((),()),()),((v2.1,v2.2.1,v2.2.2.1,v2.2.2.2.1,v2.2.2.2.2.1,v2.2.2.2.2.2.1,v2.2.2.2.2.2.2.1,v2.2.2.2.2.2.2.2,()),(v3.1,v3.2.1,v3.2.2.1,v3.2.2.2.1,v3.2.2.2.2.1,v3.2.2.2.2.2.1,v3.2.2.2.2.2.2.1,v3.2.2.2.2.2.2.2,()),()),())
abbrev yU1 (v0:Bool) (v1 v2:dS):(yiS).X:=((((),()),((),()),(v0,()),()),((v1.1,v1.2.1,v1.2.2.1,v1.2.2.2.1,v1.2.2.2.2.1,v1.2.2.2.2.2.1,v1.2.2.2.2.2.2.1,v1.2.2.2.2.2.2.2,()),(v2.1,v2.2.1,v2.2.2.1,v2.2.2.2.1,v2.2.2.2.2.1,v2.2.2.2.2.2.1,v2.2.2.2.2.2.2.1,v2.2.2.2.2.2.2.2,()),()),())
def yvP (v0:List dM) (v1:Int) (v2:Bool) (v3 v4 v5 v6 v7 v8 v9 v10 v11 v12 v13 v14 v15 v16 v17 v18 v19:Int):Option ((yda).X ⊕ ((yiS).X ⊕ (yoA).X)) :=
 bif (ltb v3 (v0.length:Int)) then
 bnd (yn3 v0 v3 v1) fun r2 =>
 bif r2.1.2.1 then
 bif (!(!v2)) then
 bif (ltb v13 r2.1.1.2.1) then
 some (.inl (((v0,()),(v1,()),((),()),((),()),(true,()),((IntKind.i64.wrap (v3+1)),()),()),((v4,v5,v6,v7,v8,v9,v10,v11,()),(r2.1.1.1,r2.1.1.2.1,r2.1.1.2.2.1,r2.1.1.2.2.2.1,r2.1.1.2.2.2.2.1,r2.1.1.2.2.2.2.2.1,r2.1.1.2.2.2.2.2.2.1,r2.1.1.2.2.2.2.2.2.2,()),()),()))
 else
 some (.inl (((v0,()),(v1,()),((),()),((),()),(v2,()),((IntKind.i64.wrap (v3+1)),()),()),((v4,v5,v6,v7,v8,v9,v10,v11,()),(v12,v13,v14,v15,v16,v17,v18,v19,()),()),()))
 else
 some (.inl (((v0,()),(v1,()),((),()),((),()),(true,()),((IntKind.i64.wrap (v3+1)),()),()),((v4,v5,v6,v7,v8,v9,v10,v11,()),(r2.1.1.1,r2.1.1.2.1,r2.1.1.2.2.1,r2.1.1.2.2.2.1,r2.1.1.2.2.2.2.1,r2.1.1.2.2.2.2.2.1,r2.1.1.2.2.2.2.2.2.1,r2.1.1.2.2.2.2.2.2.2,()),()),()))
 else
 some (.inl (((v0,()),(v1,()),((),()),((),()),(v2,()),((IntKind.i64.wrap (v3+1)),()),()),((v4,v5,v6,v7,v8,v9,v10,v11,()),(v12,v13,v14,v15,v16,v17,v18,v19,()),()),()))
 else
 some (.inr (.inl ((((),()),((),()),(v2,()),()),((v4,v5,v6,v7,v8,v9,v10,v11,()),(v12,v13,v14,v15,v16,v17,v18,v19,()),()),())))
def ydK (x:(yda).X):=yvP x.1.1.1 x.1.2.1.1 x.1.2.2.2.2.1.1 x.1.2.2.2.2.2.1.1 x.2.1.1.1 x.2.1.1.2.1 x.2.1.1.2.2.1 x.2.1.1.2.2.2.1 x.2.1.1.2.2.2.2.1 x.2.1.1.2.2.2.2.2.1 x.2.1.1.2.2.2.2.2.2.1 x.2.1.1.2.2.2.2.2.2.2.1 x.2.1.2.1.1 x.2.1.2.1.2.1 x.2.1.2.1.2.2.1 x.2.1.2.1.2.2.2.1 x.2.1.2.1.2.2.2.2.1 x.2.1.2.1.2.2.2.2.2.1 x.2.1.2.1.2.2.2.2.2.2.1 x.2.1.2.1.2.2.2.2.2.2.2.1
def yFT (x:(yi5).X):(yda).X:=(((x.1.1.1,()),(x.1.2.1.1,()),((),()),((),()),(false,()),(0,()),()),((x.2.1.1.1,x.2.1.1.2.1,x.2.1.1.2.2.1,x.2.1.1.2.2.2.1,x.2.1.1.2.2.2.2.1,x.2.1.1.2.2.2.2.2.1,x.2.1.1.2.2.2.2.2.2.1,x.2.1.1.2.2.2.2.2.2.2.1,()),(x.2.1.2.1.1,x.2.1.2.1.2.1,x.2.1.2.1.2.2.1,x.2.1.2.1.2.2.2.1,x.2.1.2.1.2.2.2.2.1,x.2.1.2.1.2.2.2.2.2.1,x.2.1.2.1.2.2.2.2.2.2.1,x.2.1.2.1.2.2.2.2.2.2.2.1,()),()),())
def yHp:Code:=(zdD ypy 64 244).getD .skip
theorem yW0:zdD ypy 64 61=some (.block 0 (.loop yHp)):=by kernel_rfl
theorem y0d (x:(yda).X):zg0 ⟨ywd,40,yJN⟩ 0 yHp 244 yda yiS yoA x=ydK x:=by kernel_rfl
def yF6 (x:(yi5).X):Nat:=18446744073709551616
def yxi (x:(yi5).X):Option ((yiS).X ⊕ (yoA).X):=zz ydK (yF6 x) (yFT x)
def yGo:Seg:=⟨yi5,yiS,yoA,yxi⟩
def yJO:Nat→Option Seg:=fun q=>bif Nat.beq q 61 then some yGo else yJN q
theorem yYa:FrOk Tryz.prog ⟨ywd,40,yJO⟩ ypy:=(yX9).loop (sg:=yGo) yda yFT (by decide) yW0 ydK yF6 (by decide) (fun _=>rfl) (fun x r _ h=>h) y0d
abbrev yjX:List Par:= [.rd tMs,.rd tI]
abbrev ywS:List OT:= [⟨false,tS,(.pr .fz (.pr .fz (.pr .fz (.pr .fz (.pr .fz (.pr .fz (.pr .fz .fz)))))))⟩,⟨false,tB,.fz⟩]
def ysp (a0:List dM) (a1:Int):Option (ResD ywS×MutD yjX) :=
 zjY (yxi (((a0,()),(a1,()),((),()),((),()),((),()),((),()),()),((0,0,0,0,0,0,0,0,()),(0,0,0,0,0,0,0,0,()),()),())) (fun y2 =>
 some (((y2.2.1.2.1.1,y2.2.1.2.1.2.1,y2.2.1.2.1.2.2.1,y2.2.1.2.1.2.2.2.1,y2.2.1.2.1.2.2.2.2.1,y2.2.1.2.1.2.2.2.2.2.1,y2.2.1.2.1.2.2.2.2.2.2.1,y2.2.1.2.1.2.2.2.2.2.2.2.1),y2.1.2.2.1.1,()),())) (fun y2 =>
 none)
theorem y8s (x:InD yjX):zjw ⟨ywd,40,yJO⟩ Tryz.f151.results.toList ypy yjX ywS x=ysp x.1 x.2.1:=by kernel_rfl
theorem y3T:ConOk Tryz.prog 151 ⟨yjX,ywS,fun x=>ysp x.1 x.2.1⟩:=zj1 (yYa) Tryz.func151 (by kernel_rfl) (by kernel_rfl) Tryz.ntmps151.symm (by decide) (fun x r h=>(y8s x).trans h)
def yqi (a0:List dM) (a1:Int):dS×Bool:=yam a0 a1
theorem y6d (a0:List dM) (a1:Int) (hk:zi1 yjX (a0,a1,())):ysp a0 a1=(fun n=>some ((n.1,n.2,()),())) (yqi a0 a1):=by
 have hb:a0.length * 80≤2 ^ 47:=hk.1.1
 have h1:=zj8 (step:=ydK) a0.length (fun i s=>yvu a0 a1 s.2 i yaB s.1) (fun (s:dS×Bool) (i:Nat)=>yp0 s (yoT (nth a0 i noMem) i a1) (yaW (nth a0 i noMem) a1).1) (fun _ _=>True) (fun s=> .inl (yU1 s.2 yaB s.1)) (fun i s hi _=>⟨by
  simp only [ydK,yvu,yvP,zj4 (show (i:Int) < a0.length by omega),cond_true,wr (show -9223372036854775808≤(i:Int)+1 by omega) (by omega),Int.natCast_add,Int.natCast_one,Int.toNat_natCast,zkr,yLj a0 i a1 (zkl hi),zkc,yir]
  cases hx:(nth a0 i noMem).2.2.1
  ·simp only [cond_false]
   unfold yp0
   cases yoT (nth a0 i noMem) i a1<;>cases hf:s.2<;>cases ltb s.1.2.1 (yaW (nth a0 i noMem) a1).1.2.1<;>simp only [Bool.not_true,Bool.not_false,cond_true,cond_false,Bool.and_true,Bool.true_and,Bool.false_and,Bool.and_false,Bool.or_true,Bool.true_or,Bool.false_or,Bool.or_false,hf]
  ·unfold yp0 yoT
   rw [hx]; rfl,trivial⟩) (fun s _=>by simp only [ydK,yvu,yvP,zkx (Int.le_refl _),cond_false]) (yaB,false) trivial 18446744073709551616 (by omega)
 unfold ysp yqi
 rw [show yxi (yVd a0 a1 yaB yaB)=_ from h1]; rfl
def yKL:Con:=⟨yjX,ywS,fun x=>(fun n=>some ((n.1,n.2,()),())) (yqi x.1 x.2.1)⟩
theorem y6Y:ConOk Tryz.prog 151 yKL:=(y3T).mono (fun x r hk h=>(y6d x.1 x.2.1 hk).trans h)
end
section
def yj9:Code:=(Tryz.f58.body).getD .skip
def yrb:Env:=zj2 TT [(46,ynF),(151,yKL),(152,ycq),(153,yxs)] [(33216,(.pr (.ow .fz) (.pr (.ow (.pr .fz .fz)) (.pr .fz (.ow .fz))))),(33280,(.pr (.ow .fz) (.pr (.ow (.pr .fz .fz)) (.pr .fz (.ow .fz)))))]
theorem yRT:FrOk Tryz.prog ⟨yrb,89,fun _=>none⟩ yj9:=zj6 yc yd ⟨ywZ,y6Y,yfK,yLe,trivial⟩
def yEW:Nat→Option Seg:=fun _=>none
def ya4:Shape:=⟨[(0,false,[.br tM]),(1,false,[.int .i64]),(4,false,[.ptr 0 0]),(8,false,[.ptr 17472 0]),(9,false,[.int .i64])],[(0,[.int .i64,.int .i64,.int .i64,.nil,.int .i64,.int .i64,.int .i64,.int .i64,.int .i64,.nil,.int .i64,.bool,.bool]),(17472,[.int .i64,.int .i64,.int .i64,.at 800000000,.int .i64,.int .i64,.int .i64,.int .i64,.int .i64,.nil,.int .i64,.bool,.bool])],[(800000000,tM,(.pr (.ow .fz) (.pr (.ow (.pr .fz .fz)) (.pr .fz (.ow .fz)))))]⟩
def yfa:Shape:=⟨[(0,false,[.br tM]),(1,false,[.int .i64]),(4,false,[.ptr 0 0]),(8,false,[.ptr 17472 0]),(9,false,[.ci .i64 0])],[(0,[.int .i64,.int .i64,.int .i64,.nil,.int .i64,.int .i64,.int .i64,.int .i64,.int .i64,.nil,.int .i64,.bool,.bool]),(17472,[.int .i64,.int .i64,.int .i64,.at 800000000,.int .i64,.int .i64,.int .i64,.int .i64,.int .i64,.nil,.int .i64,.bool,.bool])],[(800000000,tM,(.pr (.ow .fz) (.pr (.ow (.pr .fz .fz)) (.pr .fz (.ow .fz)))))]⟩
def ye1:Shape:=⟨[(4,false,[.ptr 0 0]),(8,false,[.ptr 17472 0])],[(0,[.int .i64,.int .i64,.int .i64,.nil,.int .i64,.int .i64,.int .i64,.int .i64,.int .i64,.nil,.int .i64,.bool,.bool]),(17472,[.int .i64,.int .i64,.int .i64,.at 800000000,.int .i64,.int .i64,.int .i64,.int .i64,.int .i64,.nil,.int .i64,.bool,.bool])],[(800000000,tM,(.pr (.ow .fz) (.pr (.ow (.pr .fz .fz)) (.pr .fz (.ow .fz)))))]⟩
def yjv:Shape:=⟨[],[],[]⟩
abbrev yoM (v0:List dM) (v1 v2:Int) (v3 v4:dA):(ya4).X:=(((v0,()),(v1,()),((),()),((),()),(v2,()),()),((v3.1,v3.2.1.1,v3.2.1.2,(),v3.2.2.2.1,v3.2.2.2.2.1,v3.2.2.2.2.2.1,v3.2.2.2.2.2.2.1,v3.2.2.2.2.2.2.2.1,(),v3.2.2.2.2.2.2.2.2.2.1,v3.2.2.2.2.2.2.2.2.2.2.1,v3.2.2.2.2.2.2.2.2.2.2.2,()),(v4.1,v4.2.1.1,v4.2.1.2,(),v4.2.2.2.1,v4.2.2.2.2.1,v4.2.2.2.2.2.1,v4.2.2.2.2.2.2.1,v4.2.2.2.2.2.2.2.1,(),v4.2.2.2.2.2.2.2.2.2.1,v4.2.2.2.2.2.2.2.2.2.2.1,v4.2.2.2.2.2.2.2.2.2.2.2,()),()),(v4.2.2.1,()))
abbrev yNT (v0:List dM) (v1:Int) (v2 v3:dA):(yfa).X:=(((v0,()),(v1,()),((),()),((),()),((),()),()),((v2.1,v2.2.1.1,v2.2.1.2,(),v2.2.2.2.1,v2.2.2.2.2.1,v2.2.2.2.2.2.1,v2.2.2.2.2.2.2.1,v2.2.2.2.2.2.2.2.1,(),v2.2.2.2.2.2.2.2.2.2.1,v2.2.2.2.2.2.2.2.2.2.2.1,v2.2.2.2.2.2.2.2.2.2.2.2,()),(v3.1,v3.2.1.1,v3.2.1.2,(),v3.2.2.2.1,v3.2.2.2.2.1,v3.2.2.2.2.2.1,v3.2.2.2.2.2.2.1,v3.2.2.2.2.2.2.2.1,(),v3.2.2.2.2.2.2.2.2.2.1,v3.2.2.2.2.2.2.2.2.2.2.1,v3.2.2.2.2.2.2.2.2.2.2.2,()),()),(v3.2.2.1,()))
abbrev yz8 (v0 v1:dA):(ye1).X:=((((),()),((),()),()),((v0.1,v0.2.1.1,v0.2.1.2,(),v0.2.2.2.1,v0.2.2.2.2.1,v0.2.2.2.2.2.1,v0.2.2.2.2.2.2.1,v0.2.2.2.2.2.2.2.1,(),v0.2.2.2.2.2.2.2.2.2.1,v0.2.2.2.2.2.2.2.2.2.2.1,v0.2.2.2.2.2.2.2.2.2.2.2,()),(v1.1,v1.2.1.1,v1.2.1.2,(),v1.2.2.2.1,v1.2.2.2.2.1,v1.2.2.2.2.2.1,v1.2.2.2.2.2.2.1,v1.2.2.2.2.2.2.2.1,(),v1.2.2.2.2.2.2.2.2.2.1,v1.2.2.2.2.2.2.2.2.2.2.1,v1.2.2.2.2.2.2.2.2.2.2.2,()),()),(v1.2.2.1,()))
def ypl (v0:List dM) (v1 v2 v3 v4 v5 v6 v7 v8 v9 v10 v11:Int) (v12 v13:Bool) (v14 v15 v16 v17 v18 v19 v20 v21 v22:Int) (v23 v24:Bool) (v25:List dM):Option ((ya4).X ⊕ ((ye1).X ⊕ (yjv).X)) :=
 bif (ltb v2 (v0.length:Int)) then
 bif (inb v2 v0.length) then
 let r6:=yD ((nth v0 v2 ([],[],false,[])).1,((nth v0 v2 ([],[],false,[])).2).1,(((nth v0 v2 ([],[],false,[])).2).2))
 bif (zjQ v25.length ([r6]:List dM).length 80) then
 bnd (yn3 v0 v2 v1) fun r7 =>
 bif r7.1.2.1 then
 some (.inl (((v0,()),(v1,()),((),()),((),()),((IntKind.i64.wrap (v2+1)),()),()),((v3,v4,v5,(),v6,v7,v8,v9,v10,(),v11,v12,v13,()),(v14,v15,v16,(),v17,v18,v19,v20,v21,(),v22,v23,v24,()),()),((v25++([r6]:List dM)),())))
 else
 bif (!(v17==(-1))) then
 bif (v17==v2) then
 some (.inl (((v0,()),(v1,()),((),()),((),()),((IntKind.i64.wrap (v2+1)),()),()),((v3,v4,v5,(),v6,v7,v8,v9,v10,(),v11,v12,v13,()),(v14,v15,v16,(),v2,0,v19,v20,v21,(),v22,v23,v24,()),()),((v25++([r6]:List dM)),())))
 else
 some (.inl (((v0,()),(v1,()),((),()),((),()),((IntKind.i64.wrap (v2+1)),()),()),((v3,v4,v5,(),v6,v7,v8,v9,v10,(),v11,v12,v13,()),(v14,v15,v16,(),v17,v18,v19,v20,v21,(),v22,v23,true,()),()),((v25++([r6]:List dM)),())))
 else
 some (.inl (((v0,()),(v1,()),((),()),((),()),((IntKind.i64.wrap (v2+1)),()),()),((v3,v4,v5,(),v6,v7,v8,v9,v10,(),v11,v12,v13,()),(v14,v15,v16,(),v2,0,v19,v20,v21,(),v22,v23,v24,()),()),((v25++([r6]:List dM)),())))
 else none
 else none
 else
 some (.inr (.inl ((((),()),((),()),()),((v3,v4,v5,(),v6,v7,v8,v9,v10,(),v11,v12,v13,()),(v14,v15,v16,(),v17,v18,v19,v20,v21,(),v22,v23,v24,()),()),(v25,()))))
def ybn (x:(ya4).X):=ypl x.1.1.1 x.1.2.1.1 x.1.2.2.2.2.1.1 x.2.1.1.1 x.2.1.1.2.1 x.2.1.1.2.2.1 x.2.1.1.2.2.2.2.1 x.2.1.1.2.2.2.2.2.1 x.2.1.1.2.2.2.2.2.2.1 x.2.1.1.2.2.2.2.2.2.2.1 x.2.1.1.2.2.2.2.2.2.2.2.1 x.2.1.1.2.2.2.2.2.2.2.2.2.2.1 x.2.1.1.2.2.2.2.2.2.2.2.2.2.2.1 x.2.1.1.2.2.2.2.2.2.2.2.2.2.2.2.1 x.2.1.2.1.1 x.2.1.2.1.2.1 x.2.1.2.1.2.2.1 x.2.1.2.1.2.2.2.2.1 x.2.1.2.1.2.2.2.2.2.1 x.2.1.2.1.2.2.2.2.2.2.1 x.2.1.2.1.2.2.2.2.2.2.2.1 x.2.1.2.1.2.2.2.2.2.2.2.2.1 x.2.1.2.1.2.2.2.2.2.2.2.2.2.2.1 x.2.1.2.1.2.2.2.2.2.2.2.2.2.2.2.1 x.2.1.2.1.2.2.2.2.2.2.2.2.2.2.2.2.1 x.2.2.1
def yzJ (x:(yfa).X):(ya4).X:=(((x.1.1.1,()),(x.1.2.1.1,()),((),()),((),()),(0,()),()),((x.2.1.1.1,x.2.1.1.2.1,x.2.1.1.2.2.1,(),x.2.1.1.2.2.2.2.1,x.2.1.1.2.2.2.2.2.1,x.2.1.1.2.2.2.2.2.2.1,x.2.1.1.2.2.2.2.2.2.2.1,x.2.1.1.2.2.2.2.2.2.2.2.1,(),x.2.1.1.2.2.2.2.2.2.2.2.2.2.1,x.2.1.1.2.2.2.2.2.2.2.2.2.2.2.1,x.2.1.1.2.2.2.2.2.2.2.2.2.2.2.2.1,()),(x.2.1.2.1.1,x.2.1.2.1.2.1,x.2.1.2.1.2.2.1,(),x.2.1.2.1.2.2.2.2.1,x.2.1.2.1.2.2.2.2.2.1,x.2.1.2.1.2.2.2.2.2.2.1,x.2.1.2.1.2.2.2.2.2.2.2.1,x.2.1.2.1.2.2.2.2.2.2.2.2.1,(),x.2.1.2.1.2.2.2.2.2.2.2.2.2.2.1,x.2.1.2.1.2.2.2.2.2.2.2.2.2.2.2.1,x.2.1.2.1.2.2.2.2.2.2.2.2.2.2.2.2.1,()),()),(x.2.2.1,()))
def yAZ:Code:=(zdD yj9 64 500).getD .skip
theorem yPG:zdD yj9 64 125=some (.block 0 (.loop yAZ)):=by kernel_rfl
theorem yQw (x:(ya4).X):zg0 ⟨yrb,89,yEW⟩ 0 yAZ 500 ya4 ye1 yjv x=ybn x:=by kernel_rfl
def yzU (x:(yfa).X):Nat:=18446744073709551616
def yqz (x:(yfa).X):Option ((ye1).X ⊕ (yjv).X):=zz ybn (yzU x) (yzJ x)
def yAE:Seg:=⟨yfa,ye1,yjv,yqz⟩
def yEX:Nat→Option Seg:=fun q=>bif Nat.beq q 125 then some yAE else yEW q
theorem yRU:FrOk Tryz.prog ⟨yrb,89,yEX⟩ yj9:=(yRT).loop (sg:=yAE) ya4 yzJ (by decide) yPG ybn yzU (by decide) (fun _=>rfl) (fun x r _ h=>h) yQw
abbrev ygI:List Par:= [.rd tMs,.rd tI]
abbrev yrv:List OT:= [⟨false,tA,(.pr .fz (.pr (.pr .fz .fz) (.pr (.ow (.pr (.ow .fz) (.pr (.ow (.pr .fz .fz)) (.pr .fz (.ow .fz))))) (.pr .fz (.pr .fz (.pr .fz (.pr .fz (.pr .fz (.pr (.ow (.pr .fz .fz)) (.pr .fz (.pr .fz .fz)))))))))))⟩,⟨false,tB,.fz⟩]
def ymz (a0:List dM) (a1:Int):Option (ResD yrv×MutD ygI) :=
 let r1:=yqi a0 a1
 bif (!(!r1.2)) then
 bif ((a0.length:Int) !=r1.1.2.2.2.1) then
 some (((0,(0,0),[],0,0,0,0,0,[],0,false,false),false,()),())
 else
 zjY (yqz (((a0,()),(a1,()),((),()),((),()),((),()),()),((0,0,0,(),0,0,0,0,0,(),0,false,false,()),(a1,r1.1.2.2.2.1,r1.1.2.2.2.2.1,(),r1.1.2.2.2.2.2.2.1,r1.1.2.2.2.2.2.2.2,r1.1.2.2.2.2.2.1,r1.1.2.2.2.2.2.1,r1.1.2.1,(),(-1),false,false,()),()),([],()))) (fun y7 =>
 let r9:=yaM (y7.2.1.2.1.1,(y7.2.1.2.1.2.1,y7.2.1.2.1.2.2.1),y7.2.2.1,y7.2.1.2.1.2.2.2.2.1,y7.2.1.2.1.2.2.2.2.2.1,y7.2.1.2.1.2.2.2.2.2.2.1,y7.2.1.2.1.2.2.2.2.2.2.2.1,y7.2.1.2.1.2.2.2.2.2.2.2.2.1,[],y7.2.1.2.1.2.2.2.2.2.2.2.2.2.2.1,y7.2.1.2.1.2.2.2.2.2.2.2.2.2.2.2.1,y7.2.1.2.1.2.2.2.2.2.2.2.2.2.2.2.2.1)
 bif (!r9) then
 some (((0,(0,0),[],0,0,0,0,0,[],0,false,false),false,()),())
 else
 some (((y7.2.1.2.1.1,(y7.2.1.2.1.2.1,y7.2.1.2.1.2.2.1),y7.2.2.1,y7.2.1.2.1.2.2.2.2.1,y7.2.1.2.1.2.2.2.2.2.1,y7.2.1.2.1.2.2.2.2.2.2.1,y7.2.1.2.1.2.2.2.2.2.2.2.1,y7.2.1.2.1.2.2.2.2.2.2.2.2.1,[],y7.2.1.2.1.2.2.2.2.2.2.2.2.2.2.1,y7.2.1.2.1.2.2.2.2.2.2.2.2.2.2.2.1,y7.2.1.2.1.2.2.2.2.2.2.2.2.2.2.2.2.1),true,()),())) (fun y7 =>
 none)
 else
 some (((0,(0,0),[],0,0,0,0,0,[],0,false,false),false,()),())
theorem y1r (x:InD ygI):zjw ⟨yrb,89,yEX⟩ Tryz.f58.results.toList yj9 ygI yrv x=ymz x.1 x.2.1:=by kernel_rfl
theorem yVC:ConOk Tryz.prog 58 ⟨ygI,yrv,fun x=>ymz x.1 x.2.1⟩:=zj1 (yRU) Tryz.func58 (by kernel_rfl) (by kernel_rfl) Tryz.ntmps58.symm (by decide) (fun x r h=>(y1r x).trans h)
def ybc (a0:List dM) (a1:Int):dA×Bool:=ycm a0 a1
theorem yYX (a0:List dM) (a1:Int) (hk:zi1 ygI (a0,a1,())):ymz a0 a1=(fun n=>some ((n.1,n.2,()),())) (ybc a0 a1):=by
 have hb:a0.length * 80≤2 ^ 47:=hk.1.1
 have h1: ∀ (b:dS) (s:Int×Int×Bool),yqz (yNT a0 a1 yK (yjc b [] a1 s))=some (.inl (yz8 yK (yjc b a0 a1 ((List.range a0.length).foldl (ynE a0 a1) s)))):=fun b s=>by
  have:=zj8 (step:=ybn) a0.length (fun i s=>yoM a0 a1 i yK (yjc b (a0.take i) a1 s)) (ynE a0 a1) (fun _ _=>True) (fun s=> .inl (yz8 yK (yjc b (a0.take a0.length) a1 s))) (fun i s hi _=>⟨by
   simp only [ybn,yoM,ypl,zj4 (show (i:Int) < a0.length by omega),cond_true,wr (show -9223372036854775808≤(i:Int)+1 by omega) (by omega),Int.natCast_add,Int.natCast_one,Int.toNat_natCast,zkl hi,zkr,yLj a0 i a1 (zkl hi),zkc,yir,yD,yjc]
   rw [zka.2 (show ((a0.take i).length+ [nth a0 i noMem].length) * 80≤140737488355328 by simp only [List.length_cons,List.length_nil,List.length_take]; omega),y7C a0 noMem hi]
   unfold ynE
   cases hx:(nth a0 i noMem).2.2.1
   ·cases yoT (nth a0 i noMem) i a1<;>cases (s.1== -1)<;>cases (s.1==(i:Int))<;>rfl
   ·rw [show yoT (nth a0 i noMem) i a1=false by unfold yoT; rw [hx]; rfl]
    cases (s.1== -1)<;>cases (s.1==(i:Int))<;>rfl,trivial⟩) (fun s _=>by simp only [ybn,yoM,ypl,zkx (Int.le_refl _),cond_false]) s trivial 18446744073709551616 (by omega)
  rw [List.take_length]at this
  exact this
 unfold ymz ybc ycm yMD
 simp only [yqi,bne]
 cases (yam a0 a1).2
 ·rfl
 cases ((a0.length:Int)==(yam a0 a1).1.2.2.2.1)
 ·rfl
 have h2:=h1 (yam a0 a1).1 ((yam a0 a1).1.2.2.2.2.2.2.1,(yam a0 a1).1.2.2.2.2.2.2.2,false)
 simp only [Bool.not_true,Bool.not_false,cond_true,cond_false,Bool.true_and]
 refine (congrArg (fun z=>zjY z _ _) h2).trans ?_
 simp only [zkh,yaM]
 show (bif !(yE (yjc (yam a0 a1).1 a0 a1 ((List.range a0.length).foldl (ynE a0 a1) ((yam a0 a1).1.2.2.2.2.2.2.1,(yam a0 a1).1.2.2.2.2.2.2.2,false)))) then _ else _)=_
 cases yE (yjc (yam a0 a1).1 a0 a1 ((List.range a0.length).foldl (ynE a0 a1) ((yam a0 a1).1.2.2.2.2.2.2.1,(yam a0 a1).1.2.2.2.2.2.2.2,false)))<;>rfl
def ymh:Con:=⟨ygI,yrv,fun x=>(fun n=>some ((n.1,n.2,()),())) (ybc x.1 x.2.1)⟩
theorem yxK:ConOk Tryz.prog 58 ymh:=(yVC).mono (fun x r hk h=>(yYX x.1 x.2.1 hk).trans h)
end
section
def ymX:Code:=(Tryz.f154.body).getD .skip
def yt1:Env:=zj2 TT [(124,yae),(150,ym)] []
theorem yUR:FrOk Tryz.prog ⟨yt1,19,fun _=>none⟩ ymX:=zj6 yc yd ⟨yaQ,yv,trivial⟩
def yG6:Nat→Option Seg:=fun _=>none
def yck:Shape:=⟨[(0,false,[.ptr 1000000000 0]),(3,false,[.at 800000000]),(4,false,[.int .i64])],[(1000000000,[.fz tY,.int .i64,.int .i64])],[(800000000,tI,.fz)]⟩
def yhL:Shape:=⟨[(0,false,[.ptr 1000000000 0]),(3,false,[.at 800000000]),(4,false,[.ci .i64 0])],[(1000000000,[.fz tY,.int .i64,.int .i64])],[(800000000,tI,.fz)]⟩
def yhw:Shape:=⟨[(3,false,[.at 800000000])],[(1000000000,[.fz tY,.int .i64,.int .i64])],[(800000000,tI,.fz)]⟩
def yme:Shape:=⟨[],[],[]⟩
abbrev yto (v0:Int) (v1:dU) (v2:List Int):(yck).X:=((((),()),((),()),(v0,()),()),((v1.1,v1.2.1,v1.2.2,()),()),(v2,()))
abbrev ySB (v0:dU) (v1:List Int):(yhL).X:=((((),()),((),()),((),()),()),((v0.1,v0.2.1,v0.2.2,()),()),(v1,()))
abbrev ySm (v0:dU) (v1:List Int):(yhw).X:=((((),()),()),((v0.1,v0.2.1,v0.2.2,()),()),(v1,()))
def ytN (v0:Int) (v1:List Int) (v2 v3:Int) (v4:List Int):Option ((yck).X ⊕ ((yhw).X ⊕ (yme).X)) :=
 bif (ltb v0 5) then
 bnd (yb (v1,v2,v3) 4096) fun r3 =>
 bnd (yn r3.2.1 ([0,1,2,3,5,7,1048575,r3.1.1]:List Int)) fun r4 =>
 bif (zjQ v4.length ([r4.1.1]:List Int).length 8) then
 some (.inl ((((),()),((),()),((IntKind.i64.wrap (v0+1)),()),()),((r4.2.1.1,r4.2.1.2.1,r4.2.1.2.2,()),()),((v4++([r4.1.1]:List Int)),())))
 else none
 else
 some (.inr (.inl ((((),()),()),((v1,v2,v3,()),()),(v4,()))))
def ycL (x:(yck).X):=ytN x.1.2.2.1.1 x.2.1.1.1 x.2.1.1.2.1 x.2.1.1.2.2.1 x.2.2.1
def yDx (x:(yhL).X):(yck).X:=((((),()),((),()),(0,()),()),((x.2.1.1.1,x.2.1.1.2.1,x.2.1.1.2.2.1,()),()),(x.2.2.1,()))
def yFp:Code:=(zdD ymX 64 116).getD .skip
theorem yT0:zdD ymX 64 29=some (.block 0 (.loop yFp)):=by kernel_rfl
theorem yWf (x:(yck).X):zg0 ⟨yt1,19,yG6⟩ 0 yFp 116 yck yhw yme x=ycL x:=by kernel_rfl
def yDP (x:(yhL).X):Nat:=18446744073709551616
def yu9 (x:(yhL).X):Option ((yhw).X ⊕ (yme).X):=zz ycL (yDP x) (yDx x)
def yEi:Seg:=⟨yhL,yhw,yme,yu9⟩
def yG7:Nat→Option Seg:=fun q=>bif Nat.beq q 29 then some yEi else yG6 q
theorem yUS:FrOk Tryz.prog ⟨yt1,19,yG7⟩ ymX:=(yUR).loop (sg:=yEi) yck yDx (by decide) yT0 ycL yDP (by decide) (fun _=>rfl) (fun x r _ h=>h) yWf
abbrev ynj:List Par:= [.pt tU .fz]
abbrev yun:List OT:= [⟨false,tL,(.ow .fz)⟩]
def ydf (a0:dU):Option (ResD yun×MutD ynj) :=
 zjY (yu9 ((((),()),((),()),((),()),()),((a0.1,a0.2.1,a0.2.2,()),()),(([]:List Int),()))) (fun y4 =>
 some ((y4.2.2.1,()),((y4.2.1.1.1,y4.2.1.1.2.1,y4.2.1.1.2.2.1),()))) (fun y4 =>
 none)
theorem y5o (x:InD ynj):zjw ⟨yt1,19,yG7⟩ Tryz.f154.results.toList ymX ynj yun x=ydf x.1:=by kernel_rfl
theorem yZE:ConOk Tryz.prog 154 ⟨ynj,yun,fun x=>ydf x.1⟩:=zj1 (yUS) Tryz.func154 (by kernel_rfl) (by kernel_rfl) Tryz.ntmps154.symm (by decide) (fun x r h=>(y5o x).trans h)
def yxr:Con:=⟨ynj,yun,fun x=>ydf x.1⟩
theorem yLd:ConOk Tryz.prog 154 yxr:=yZE
theorem yWn: ∀ (n:Nat) (u:dU) (l:List Int) (fuel:Nat),n≤5→n < fuel→yA u→n+l.length≤1000 →
  ∃ (u':dU) (l':List Int),zz ycL fuel (yto (5 - (n:Int)) u l)=some (.inl (ySm u' l'))∧yA u'∧l'.length=n+l.length
 | 0,u,l,fuel+1,_,_,hu,_=>⟨u,l,by simp only [zz,ycL,yto,ytN]; rfl,hu,by omega⟩
 | n+1,u,l,fuel+1,hn,hf,hu,hl=>by
  obtain ⟨x,u1,e1,_,d1⟩:=yp u 4096 hu
  obtain ⟨y,u2,e2,_,d2⟩:=yfe u1 [0,1,2,3,5,7,1048575,x] d1 (by simp)
  obtain ⟨u',l',e3,d3,h3⟩:=yWn n u2 (l++ [y]) fuel (by omega) (by omega) d2 (by rw [List.length_append]; simp only [List.length_cons,List.length_nil]; omega)
  refine ⟨u',l',?_,d3,by rw [h3,List.length_append]; simp only [List.length_cons,List.length_nil]; omega⟩
  rw [← e3,zz]
  simp only [ycL,yto,ytN,zj4 (show (5 - ((n+1:Nat):Int)) < 5 by omega),cond_true,zkr,e1,e2,zkc,wr (show -9223372036854775808≤(5 - ((n+1:Nat):Int))+1 by omega) (by omega),show (5 - ((n+1:Nat):Int))+1=5 - (n:Int) by omega,wr (show -9223372036854775808≤5 - (n:Int) by omega) (by omega),
   zka.2 (show (l.length+ [y].length) * 8≤140737488355328 by simp only [List.length_cons,List.length_nil]; omega)]
theorem y1b (u:dU) (h:yA u): ∃ (l:List Int) (u':dU),ydf u=some ((l,()),(u',()))∧l.length=5∧yA u':=by
 obtain ⟨u',l',e,d,hl⟩:=yWn 5 u [] 18446744073709551616 (by omega) (by omega) h (by simp)
 unfold ydf
 refine ⟨l',u',?_,by rw [hl]; rfl,d⟩
 exact (congrArg (fun z=>zjY z _ _) (show yu9 (ySB u [])=_ from e)).trans rfl
end
section
def yCI:Code:=(Tryz.f59.body).getD .skip
def yCV:Env:=zj2 TT [(94,yds),(96,ycp),(124,yae),(149,yrY),(150,ym),(154,yxr)] []
theorem yMV:FrOk Tryz.prog ⟨yCV,23,fun _=>none⟩ yCI:=zj6 yc yd ⟨yhb,yfJ,yaQ,yCg,yv,yLd,trivial⟩
def yNr:Nat→Option Seg:=fun _=>none
abbrev yf0:List Par:= [.kp tYs .fz]
abbrev ykZ:List OT:= [⟨false,tMs,(.ow .fz)⟩,⟨false,tL,(.ow .fz)⟩,⟨false,tI,.fz⟩,⟨false,tI,.fz⟩]
def ybS (a0:List Int):Option (ResD ykZ×MutD yf0) :=
 let r1:=yaO a0
 bnd (ydf r1) fun r2 =>
 let r3:=yaq a0 12
 bnd (yct r2.2.1 r3) fun r4 =>
 bnd (yb r4.2.1 2) fun r5 =>
 bnd (yn r5.2.1 ([(-1),(-1),0,2,5,9,14,1001,(-2)]:List Int)) fun r6 =>
 some ((r4.1.1,r2.1.1,(IntKind.i64.wrap (1+r5.1.1)),r6.1.1,()),())
theorem yRr (x:InD yf0):zjw ⟨yCV,23,yNr⟩ Tryz.f59.results.toList yCI yf0 ykZ x=ybS x.1:=by kernel_rfl
theorem yN2:ConOk Tryz.prog 59 ⟨yf0,ykZ,fun x=>ybS x.1⟩:=zj1 (yMV) Tryz.func59 (by kernel_rfl) (by kernel_rfl) Tryz.ntmps59.symm (by decide) (fun x r h=>(yRr x).trans h)
def yzt:Con:=⟨yf0,ykZ,fun x=>ybS x.1⟩
theorem yQp:ConOk Tryz.prog 59 yzt:=yN2
theorem y4T (a0:List Int) (hb:a0.length≤140737488355328): ∃ (l:List dM) (ks:List Int) (id f:Int),ybS a0=some ((l,ks,id,f,()),())∧LM l:=by
 unfold ybS
 obtain ⟨h1,h2⟩:=yB7 a0 12 (by omega) hb
 obtain ⟨ks,u1,e1,_,d1⟩:=y1b _ (yHH a0 hb)
 obtain ⟨l,u2,e2,q2,d2⟩:=yRn u1 _ d1 h1 (by omega)
 obtain ⟨x,u3,e3,_,d3⟩:=yp u2 2 d2
 obtain ⟨f,u4,e4,_,d4⟩:=yfe u3 [(-1),(-1),0,2,5,9,14,1001,(-2)] d3 (by simp)
 simp only [e1,e2,e3,e4,zkc]
 exact ⟨_,_,_,_,rfl,q2⟩
end
section
def yOm:Code:=(Tryz.f157.body).getD .skip
def yOX:Env:=zj2 TT [] []
theorem yXl:FrOk Tryz.prog ⟨yOX,8,fun _=>none⟩ yOm:=zj6 yc yd trivial
def y0p:Nat→Option Seg:=fun _=>none
abbrev ypC:List Par:= [.rd tI]
abbrev ywm:List OT:= [⟨false,tI,.fz⟩]
def yAl (a0:Int):Option (ResD ywm×MutD ypC) :=
 bif (ltb a0 0) then
 some (((-1),()),())
 else
 some (((IntKind.i64.wrap (2+(a0.tmod 4))),()),())
theorem y7S (x:InD ypC):zjw ⟨yOX,8,y0p⟩ Tryz.f157.results.toList yOm ypC ywm x=yAl x.1:=by kernel_rfl
theorem y3j:ConOk Tryz.prog 157 ⟨ypC,ywm,fun x=>yAl x.1⟩:=zj1 (yXl) Tryz.func157 (by kernel_rfl) (by kernel_rfl) Tryz.ntmps157.symm (by decide) (fun x r h=>(y7S x).trans h)
def yqa (a0:Int):Int :=
 bif (ltb a0 0) then
 (-1)
 else
 (IntKind.i64.wrap (2+(a0.tmod 4)))
def yzp:Con:=⟨ypC,ywm,fun x=>(fun n=>some ((n,()),())) (yqa x.1)⟩
theorem y5L (a0:Int):yAl a0=(fun n=>some ((n,()),())) (yqa a0):=zkp (p:=fun (n:Int)=>((n,()),())) (zkb (p:=fun (n:Int)=>((n,()),())) rfl rfl)
theorem yM8:ConOk Tryz.prog 157 yzp:=(y3j).mono (fun x r _ h=>(y5L x.1).trans h)
theorem ySe (q:Int):yqa q=yl q:=rfl
end
section
def yQB:Code:=(Tryz.f237.body).getD .skip
def yQT:Env:=zj2 TT [(126,yF),(228,yoC)] []
theorem y1Q:FrOk Tryz.prog ⟨yQT,22,fun _=>none⟩ yQB:=zj6 yc yd ⟨yS,yAe,trivial⟩
def y4y:Nat→Option Seg:=fun _=>none
abbrev ysO:List Par:= [.rd tN]
abbrev yy0:List OT:= [⟨false,tB,.fz⟩]
def yCo (a0:dN):Option (ResD yy0×MutD ysO) :=
 let r1:=yg a0.1 0 60000
 bif r1 then
 let r2:=yg a0.2.1 0 7
 bif r2 then
 let r3:=yg (a0.2.2.length:Int) 2 4
 bif r3 then
 let r4:=yaf a0.2.2
 some ((r4,()),())
 else
 some ((false,()),())
 else
 some ((false,()),())
 else
 some ((false,()),())
theorem y9n (x:InD ysO):zjw ⟨yQT,22,y4y⟩ Tryz.f237.results.toList yQB ysO yy0 x=yCo x.1:=by kernel_rfl
theorem y6h:ConOk Tryz.prog 237 ⟨ysO,yy0,fun x=>yCo x.1⟩:=zj1 (y1Q) Tryz.func237 (by kernel_rfl) (by kernel_rfl) Tryz.ntmps237.symm (by decide) (fun x r h=>(y9n x).trans h)
def ynN (a0:dN):Bool :=
 let r1:=yg a0.1 0 60000
 bif r1 then
 let r2:=yg a0.2.1 0 7
 bif r2 then
 let r3:=yg (a0.2.2.length:Int) 2 4
 bif r3 then
 let r4:=yaf a0.2.2
 r4
 else
 false
 else
 false
 else
 false
def yBX:Con:=⟨ysO,yy0,fun x=>(fun n=>some ((n,()),())) (ynN x.1)⟩
theorem y8A (a0:dN):yCo a0=(fun n=>some ((n,()),())) (ynN a0):=zkp (p:=fun (n:Bool)=>((n,()),())) (zkb (p:=fun (n:Bool)=>((n,()),())) (zkb (p:=fun (n:Bool)=>((n,()),())) (zkb (p:=fun (n:Bool)=>((n,()),())) rfl rfl) rfl) rfl)
theorem yPo:ConOk Tryz.prog 237 yBX:=(y6h).mono (fun x r _ h=>(y8A x.1).trans h)
theorem yWq (r:dN):ynN r=yB r:=by
 unfold ynN yB
 simp only [yah,yKX,yw4]
end
section
def yOj:Code:=(Tryz.f158.body).getD .skip
def yOU:Env:=zj2 TT [(200,yaX),(237,yBX)] []
theorem yXg:FrOk Tryz.prog ⟨yOU,39,fun _=>none⟩ yOj:=zj6 yc yd ⟨ydd,yPo,trivial⟩
def y0m:Nat→Option Seg:=fun _=>none
abbrev yjH:List Par:= [.rd tL]
abbrev ywi:List OT:= [⟨false,tN,(.pr .fz (.pr .fz (.ow .fz)))⟩,⟨false,tB,.fz⟩]
def yr6 (a0:List Int):Option (ResD ywi×MutD yjH) :=
 bif (!(ltb (a0.length:Int) 4)) then
 bif (inb 0 a0.length) then
 bif (!((nth a0 0 0) !=21322)) then
 bif (inb 3 a0.length) then
 bif ((nth a0 3 0) !=(IntKind.i64.wrap ((a0.length:Int) - 4))) then
 some (((0,0,[]),false,()),())
 else
 bif (inb 1 a0.length) then
 bif (inb 2 a0.length) then
 bif (zjv 4 (a0.length:Int) a0.length) then
 let r1:=yo ((a0.drop (4:Int).toNat).take ((a0.length:Int) - 4).toNat)
 let r2:=ynN ((nth a0 1 0),(nth a0 2 0),r1)
 bif (!r2) then
 some (((0,0,[]),false,()),())
 else
 some ((((nth a0 1 0),(nth a0 2 0),r1),true,()),())
 else none
 else none
 else none
 else none
 else
 some (((0,0,[]),false,()),())
 else none
 else
 some (((0,0,[]),false,()),())
theorem y7O (x:InD yjH):zjw ⟨yOU,39,y0m⟩ Tryz.f158.results.toList yOj yjH ywi x=yr6 x.1:=by kernel_rfl
theorem y3f:ConOk Tryz.prog 158 ⟨yjH,ywi,fun x=>yr6 x.1⟩:=zj1 (yXg) Tryz.func158 (by kernel_rfl) (by kernel_rfl) Tryz.ntmps158.symm (by decide) (fun x r h=>(y7O x).trans h)
def yp7 (a0:List Int):dN×Bool:=ybb a0
theorem y5H (a0:List Int) (hk:zi1 yjH (a0,())):yr6 a0=(fun n=>some ((n.1,n.2,()),())) (yp7 a0):=by
 have hb:a0.length * 8≤2 ^ 47:=hk.1.1
 unfold yr6 yp7 ybb yo
 by_cases h:(a0.length:Int) < 4
 ·rw [zj4 h,zkv h]; rfl
 ·have ht:(a0.drop (4:Int).toNat).take ((a0.length:Int) - 4).toNat=a0.drop 4:=List.take_of_length_le (by rw [List.length_drop]; show a0.length - 4≤_; omega)
  rw [zkx (Int.not_lt.1 h),zkw (Int.not_lt.1 h)]
  simp only [bne,Bool.not_false,cond_true,zjC.2 (show (0:Int)≤0∧(0:Int) < a0.length by omega),zjC.2 (show (0:Int)≤1∧(1:Int) < a0.length by omega),zjC.2 (show (0:Int)≤2∧(2:Int) < a0.length by omega),zjC.2 (show (0:Int)≤3∧(3:Int) < a0.length by omega),zj5.2 (show (0:Int)≤4∧(4:Int)≤a0.length∧(a0.length:Int)≤a0.length by omega),ht,wr (show -9223372036854775808≤(a0.length:Int) - 4 by omega) (by omega),yWq]
  rw [show yB (nth a0 1 0,nth a0 2 0,a0.drop 4)=yB (yLk a0) from rfl]
  cases (nth a0 0 0==21322)<;>cases (nth a0 3 0==(a0.length:Int) - 4)<;>cases yB (yLk a0)<;>rfl
def yKu:Con:=⟨yjH,ywi,fun x=>(fun n=>some ((n.1,n.2,()),())) (yp7 x.1)⟩
theorem y6H:ConOk Tryz.prog 158 yKu:=(y3f).mono (fun x r hk h=>(y5H x.1 hk).trans h)
end
section
def ymM:Code:=(Tryz.f64.body).getD .skip
def ytQ:Env:=zj2 TT [(156,yxk),(157,yzp),(158,yKu)] []
theorem yT9:FrOk Tryz.prog ⟨ytQ,67,fun _=>none⟩ ymM:=zj6 yc yd ⟨yK6,yM8,y6H,trivial⟩
def yGG:Nat→Option Seg:=fun _=>none
def yb7:Shape:=⟨[(1,false,[.int .i64]),(2,false,[.ptr 0 0]),(4,false,[.ptr 64 0]),(13,false,[.br tM]),(14,false,[.int .i64]),(15,false,[.int .i64])],[(0,[.int .i64,.int .i64,.int .i64,.br tM,.int .i64,.int .i64,.int .i64,.int .i64,.int .i64,.br tW,.int .i64,.bool,.bool]),(64,[.int .i64,.int .i64,.nil])],[]⟩
def yhy:Shape:=⟨[(1,false,[.int .i64]),(2,false,[.ptr 0 0]),(4,false,[.ptr 64 0]),(13,false,[.br tM]),(14,false,[.int .i64]),(15,false,[.ci .i64 0])],[(0,[.int .i64,.int .i64,.int .i64,.br tM,.int .i64,.int .i64,.int .i64,.int .i64,.int .i64,.br tW,.int .i64,.bool,.bool]),(64,[.int .i64,.int .i64,.nil])],[]⟩
def yhj:Shape:=⟨[(4,false,[.ptr 64 0])],[(64,[.int .i64,.int .i64,.nil])],[]⟩
def yhO:Shape:=⟨[(4,false,[.ptr 64 0]),(5,false,[.bool])],[(64,[.int .i64,.int .i64,.at 800000000])],[(800000000,tI,.fz)]⟩
abbrev ytb (v0:Int) (v1:List dM) (v2 v3:Int) (v4:dA) (v5:dN):(yb7).X:=(((v0,()),((),()),((),()),(v1,()),(v2,()),(v3,()),()),((v4.1,v4.2.1.1,v4.2.1.2,v4.2.2.1,v4.2.2.2.1,v4.2.2.2.2.1,v4.2.2.2.2.2.1,v4.2.2.2.2.2.2.1,v4.2.2.2.2.2.2.2.1,v4.2.2.2.2.2.2.2.2.1,v4.2.2.2.2.2.2.2.2.2.1,v4.2.2.2.2.2.2.2.2.2.2.1,v4.2.2.2.2.2.2.2.2.2.2.2,()),(v5.1,v5.2.1,(),()),()),())
abbrev ySo (v0:Int) (v1:List dM) (v2:Int) (v3:dA) (v4:dN):(yhy).X:=(((v0,()),((),()),((),()),(v1,()),(v2,()),((),()),()),((v3.1,v3.2.1.1,v3.2.1.2,v3.2.2.1,v3.2.2.2.1,v3.2.2.2.2.1,v3.2.2.2.2.2.1,v3.2.2.2.2.2.2.1,v3.2.2.2.2.2.2.2.1,v3.2.2.2.2.2.2.2.2.1,v3.2.2.2.2.2.2.2.2.2.1,v3.2.2.2.2.2.2.2.2.2.2.1,v3.2.2.2.2.2.2.2.2.2.2.2,()),(v4.1,v4.2.1,(),()),()),())
abbrev ySf (v0:dN):(yhj).X:=((((),()),()),((v0.1,v0.2.1,(),()),()),())
abbrev ySD (v0:Bool) (v1:dN):(yhO).X:=((((),()),(v0,()),()),((v1.1,v1.2.1,(),()),()),(v1.2.2,()))
def yty (v0:Int) (v1:List dM) (v2 v3 v4 v5 v6:Int) (v7:List dM) (v8 v9 v10 v11 v12:Int) (v13:List dW) (v14:Int) (v15 v16:Bool) (v17 v18:Int):Option ((yb7).X ⊕ ((yhj).X ⊕ (yhO).X)) :=
 bif (ltb v3 v2) then
 bif (inb v3 v1.length) then
 let r4:=yqa v0
 let r5:=yfD ((nth v1 v3 ([],[],false,[])).1,((nth v1 v3 ([],[],false,[])).2).1,(((nth v1 v3 ([],[],false,[])).2).2)) r4
 let r6:=yp7 r5.1
 bif r5.2 then
 bif r6.2 then
 bif (r6.1.1==v0) then
 bif (leb 0 r6.1.2.1) then
 bif (ltb r6.1.2.1 v6) then
 bif ((IntKind.i64.wrap ((r6.1.2.2.length:Int)+1))==v5) then
 some (.inr (.inr ((((),()),(true,()),()),((r6.1.1,r6.1.2.1,(),()),()),(r6.1.2.2,()))))
 else
 some (.inl (((v0,()),((),()),((),()),(v1,()),(v2,()),((IntKind.i64.wrap (v3+1)),()),()),((v4,v5,v6,v7,v8,v9,v10,v11,v12,v13,v14,v15,v16,()),(v17,v18,(),()),()),()))
 else
 some (.inl (((v0,()),((),()),((),()),(v1,()),(v2,()),((IntKind.i64.wrap (v3+1)),()),()),((v4,v5,v6,v7,v8,v9,v10,v11,v12,v13,v14,v15,v16,()),(v17,v18,(),()),()),()))
 else
 some (.inl (((v0,()),((),()),((),()),(v1,()),(v2,()),((IntKind.i64.wrap (v3+1)),()),()),((v4,v5,v6,v7,v8,v9,v10,v11,v12,v13,v14,v15,v16,()),(v17,v18,(),()),()),()))
 else
 some (.inl (((v0,()),((),()),((),()),(v1,()),(v2,()),((IntKind.i64.wrap (v3+1)),()),()),((v4,v5,v6,v7,v8,v9,v10,v11,v12,v13,v14,v15,v16,()),(v17,v18,(),()),()),()))
 else
 some (.inl (((v0,()),((),()),((),()),(v1,()),(v2,()),((IntKind.i64.wrap (v3+1)),()),()),((v4,v5,v6,v7,v8,v9,v10,v11,v12,v13,v14,v15,v16,()),(v17,v18,(),()),()),()))
 else
 some (.inl (((v0,()),((),()),((),()),(v1,()),(v2,()),((IntKind.i64.wrap (v3+1)),()),()),((v4,v5,v6,v7,v8,v9,v10,v11,v12,v13,v14,v15,v16,()),(v17,v18,(),()),()),()))
 else none
 else
 some (.inr (.inl ((((),()),()),((v17,v18,(),()),()),())))
def ycw (x:(yb7).X):=yty x.1.1.1 x.1.2.2.2.1.1 x.1.2.2.2.2.1.1 x.1.2.2.2.2.2.1.1 x.2.1.1.1 x.2.1.1.2.1 x.2.1.1.2.2.1 x.2.1.1.2.2.2.1 x.2.1.1.2.2.2.2.1 x.2.1.1.2.2.2.2.2.1 x.2.1.1.2.2.2.2.2.2.1 x.2.1.1.2.2.2.2.2.2.2.1 x.2.1.1.2.2.2.2.2.2.2.2.1 x.2.1.1.2.2.2.2.2.2.2.2.2.1 x.2.1.1.2.2.2.2.2.2.2.2.2.2.1 x.2.1.1.2.2.2.2.2.2.2.2.2.2.2.1 x.2.1.1.2.2.2.2.2.2.2.2.2.2.2.2.1 x.2.1.2.1.1 x.2.1.2.1.2.1
def yDi (x:(yhy).X):(yb7).X:=(((x.1.1.1,()),((),()),((),()),(x.1.2.2.2.1.1,()),(x.1.2.2.2.2.1.1,()),(0,()),()),((x.2.1.1.1,x.2.1.1.2.1,x.2.1.1.2.2.1,x.2.1.1.2.2.2.1,x.2.1.1.2.2.2.2.1,x.2.1.1.2.2.2.2.2.1,x.2.1.1.2.2.2.2.2.2.1,x.2.1.1.2.2.2.2.2.2.2.1,x.2.1.1.2.2.2.2.2.2.2.2.1,x.2.1.1.2.2.2.2.2.2.2.2.2.1,x.2.1.1.2.2.2.2.2.2.2.2.2.2.1,x.2.1.1.2.2.2.2.2.2.2.2.2.2.2.1,x.2.1.1.2.2.2.2.2.2.2.2.2.2.2.2.1,()),(x.2.1.2.1.1,x.2.1.2.1.2.1,(),()),()),())
def yFa:Code:=(zdD ymM 64 52).getD .skip
theorem yTL:zdD ymM 64 13=some (.block 0 (.loop yFa)):=by kernel_rfl
theorem yV0 (x:(yb7).X):zg0 ⟨ytQ,67,yGG⟩ 0 yFa 52 yb7 yhj yhO x=ycw x:=by kernel_rfl
def yDA (x:(yhy).X):Nat:=18446744073709551616
def yuU (x:(yhy).X):Option ((yhj).X ⊕ (yhO).X):=zz ycw (yDA x) (yDi x)
def yD3:Seg:=⟨yhy,yhj,yhO,yuU⟩
def yGH:Nat→Option Seg:=fun q=>bif Nat.beq q 13 then some yD3 else yGG q
theorem yUa:FrOk Tryz.prog ⟨ytQ,67,yGH⟩ ymM:=(yT9).loop (sg:=yD3) yb7 yDi (by decide) yTL ycw yDA (by decide) (fun _=>rfl) (fun x r _ h=>h) yV0
abbrev yfk:List Par:= [.rd tA,.rd tI]
abbrev yns:List OT:= [⟨false,tN,(.pr .fz (.pr .fz (.ow .fz)))⟩,⟨false,tB,.fz⟩]
def yoW (a0:dA) (a1:Int):Option (ResD yns×MutD yfk) :=
 zjY (yuU (((a1,()),((),()),((),()),(a0.2.2.1,()),((a0.2.2.1.length:Int),()),((),()),()),((a0.1,a0.2.1.1,a0.2.1.2,a0.2.2.1,a0.2.2.2.1,a0.2.2.2.2.1,a0.2.2.2.2.2.1,a0.2.2.2.2.2.2.1,a0.2.2.2.2.2.2.2.1,a0.2.2.2.2.2.2.2.2.1,a0.2.2.2.2.2.2.2.2.2.1,a0.2.2.2.2.2.2.2.2.2.2.1,a0.2.2.2.2.2.2.2.2.2.2.2,()),(0,0,(),()),()),())) (fun y6 =>
 some (((0,0,[]),false,()),())) (fun y6 =>
 some (((y6.2.1.1.1,y6.2.1.1.2.1,y6.2.2.1),y6.1.2.1.1,()),()))
theorem y4V (x:InD yfk):zjw ⟨ytQ,67,yGH⟩ Tryz.f64.results.toList ymM yfk yns x=yoW x.1 x.2.1:=by kernel_rfl
theorem yZb:ConOk Tryz.prog 64 ⟨yfk,yns,fun x=>yoW x.1 x.2.1⟩:=zj1 (yUa) Tryz.func64 (by kernel_rfl) (by kernel_rfl) Tryz.ntmps64.symm (by decide) (fun x r h=>(y4V x).trans h)
def yim (a0:dA) (a1:Int):dN×Bool:=yU a0 a1
def yn4 (a0:dA) (a1:Int):Bool:=yf a0.2.1||y2v a0.2.1
theorem y2L (a0:dA) (a1:Int) (hk:zi1 yfk (a0,a1,())) (hq:yn4 a0 a1=true):yoW a0 a1=(fun n=>some ((n.1,n.2,()),())) (yim a0 a1):=by
 have hb:a0.2.2.1.length * 80≤2 ^ 47:=hk.1.2.2.1.1
 have hg:=y7n hq
 have h1:=yKZ (step:=ycw) (List.range a0.2.2.1.length) 0 (fun i=>ytb a1 a0.2.2.1 a0.2.2.1.length i a0 yK4) (yql a0 a1) (fun k=> .inr (ySD true (yCF a0 a1 k.toNat))) (.inl (ySf yK4)) (fun i hi=>by
  rw [List.length_range]at hi
  rw [yOa hi]
  simp only [ycw,ytb,yty,zj4 (show (i:Int) < a0.2.2.1.length by omega),cond_true,wr (show -9223372036854775808≤(i:Int)+1 by omega) (by omega),Int.natCast_add,Int.natCast_one,Int.toNat_natCast,zkl hi,zkr,yfD,yp7,ySe,yql,yCF,yTi,noMem]
  have e1:ltb (ybb (yr (nth a0.2.2.1 i ([],[],false,[])) (yl a1)).1).1.2.1 a0.2.1.2=leb (ybb (yr (nth a0.2.2.1 i ([],[],false,[])) (yl a1)).1).1.2.1 (a0.2.1.2 - 1):=by rw [Bool.eq_iff_iff,zjG,zjD]; omega
  cases hr:(yr (nth a0.2.2.1 i ([],[],false,[])) (yl a1)).2
  ·rfl
  cases hg2:(ybb (yr (nth a0.2.2.1 i ([],[],false,[])) (yl a1)).1).2
  ·rfl
  have hl:=(yTh.1 (yabt hg2).1).2.2.1
  have e2:(IntKind.i64.wrap (((ybb (yr (nth a0.2.2.1 i ([],[],false,[])) (yl a1)).1).1.2.2.length:Int)+1)==a0.2.1.1)=(((ybb (yr (nth a0.2.2.1 i ([],[],false,[])) (yl a1)).1).1.2.2.length:Int)==a0.2.1.1 - 1):=by rw [wr (by omega) (by omega),Bool.eq_iff_iff,beq_iff_eq,beq_iff_eq]; omega
  rw [e1,e2]
  cases ((ybb (yr (nth a0.2.2.1 i ([],[],false,[])) (yl a1)).1).1.1==a1)<;>cases leb 0 (ybb (yr (nth a0.2.2.1 i ([],[],false,[])) (yl a1)).1).1.2.1<;>cases leb (ybb (yr (nth a0.2.2.1 i ([],[],false,[])) (yl a1)).1).1.2.1 (a0.2.1.2 - 1)<;>cases (((ybb (yr (nth a0.2.2.1 i ([],[],false,[])) (yl a1)).1).1.2.2.length:Int)==a0.2.1.1 - 1)<;>rfl) (by
   rw [List.length_range]; simp only [ycw,ytb,yty,zkx (Int.le_refl _),cond_false]) 18446744073709551616 (by rw [List.length_range]; omega)
 unfold yoW yim yU
 rw [show yuU (ySo a1 a0.2.2.1 a0.2.2.1.length a0 yK4)=_ from h1]
 cases leb 0 (yR (yql a0 a1) (List.range a0.2.2.1.length))<;>rfl
def ynY (a0:dA) (a1:Int):Option (ResD yns×MutD yfk):=bif yn4 a0 a1 then (fun n=>some ((n.1,n.2,()),())) (yim a0 a1) else none
theorem yLf (a0:dA) (a1:Int) (h:yn4 a0 a1=true):ynY a0 a1=(fun n=>some ((n.1,n.2,()),())) (yim a0 a1):=by unfold ynY; rw [h]; rfl
def yxj:Con:=⟨yfk,yns,fun x=>ynY x.1 x.2.1⟩
theorem yK5:ConOk Tryz.prog 64 yxj:=(yZb).mono (fun x r hk h=>zks h (fun hq=>y2L x.1 x.2.1 hk hq))
end
section
def ymO:Code:=(Tryz.f98.body).getD .skip
def ytS:Env:=zj2 TT [(143,yvd),(200,yaX)] []
theorem yUf:FrOk Tryz.prog ⟨ytS,31,fun _=>none⟩ ymO:=zj6 yc yd ⟨yIu,ydd,trivial⟩
def yGK:Nat→Option Seg:=fun _=>none
def yb9:Shape:=⟨[(1,false,[.ptr 0 0]),(2,false,[.ptr 64 0]),(3,false,[.at 800000000]),(8,false,[.br tW]),(9,false,[.int .i64]),(10,false,[.int .i64])],[(0,[.int .i64,.int .i64,.int .i64,.br tM,.int .i64,.int .i64,.int .i64,.int .i64,.int .i64,.br tW,.int .i64,.bool,.bool]),(64,[.int .i64,.int .i64,.int .i64,.nil,.int .i64,.int .i64,.int .i64,.int .i64,.int .i64,.nil,.int .i64,.bool,.bool])],[(800000000,tW,(.pr .fz (.ow .fz)))]⟩
def yhA:Shape:=⟨[(1,false,[.ptr 0 0]),(2,false,[.ptr 64 0]),(3,false,[.at 800000000]),(8,false,[.br tW]),(9,false,[.int .i64]),(10,false,[.ci .i64 0])],[(0,[.int .i64,.int .i64,.int .i64,.br tM,.int .i64,.int .i64,.int .i64,.int .i64,.int .i64,.br tW,.int .i64,.bool,.bool]),(64,[.int .i64,.int .i64,.int .i64,.nil,.int .i64,.int .i64,.int .i64,.int .i64,.int .i64,.nil,.int .i64,.bool,.bool])],[(800000000,tW,(.pr .fz (.ow .fz)))]⟩
def yhl:Shape:=⟨[(1,false,[.ptr 0 0]),(2,false,[.ptr 64 0]),(3,false,[.at 800000000])],[(0,[.int .i64,.int .i64,.int .i64,.br tM,.int .i64,.int .i64,.int .i64,.int .i64,.int .i64,.br tW,.int .i64,.bool,.bool]),(64,[.int .i64,.int .i64,.int .i64,.nil,.int .i64,.int .i64,.int .i64,.int .i64,.int .i64,.nil,.int .i64,.bool,.bool])],[(800000000,tW,(.pr .fz (.ow .fz)))]⟩
def yl5:Shape:=⟨[],[],[]⟩
abbrev ytd (v0:List dW) (v1 v2:Int) (v3 v4:dA) (v5:List dW):(yb9).X:=((((),()),((),()),((),()),(v0,()),(v1,()),(v2,()),()),((v3.1,v3.2.1.1,v3.2.1.2,v3.2.2.1,v3.2.2.2.1,v3.2.2.2.2.1,v3.2.2.2.2.2.1,v3.2.2.2.2.2.2.1,v3.2.2.2.2.2.2.2.1,v3.2.2.2.2.2.2.2.2.1,v3.2.2.2.2.2.2.2.2.2.1,v3.2.2.2.2.2.2.2.2.2.2.1,v3.2.2.2.2.2.2.2.2.2.2.2,()),(v4.1,v4.2.1.1,v4.2.1.2,(),v4.2.2.2.1,v4.2.2.2.2.1,v4.2.2.2.2.2.1,v4.2.2.2.2.2.2.1,v4.2.2.2.2.2.2.2.1,(),v4.2.2.2.2.2.2.2.2.2.1,v4.2.2.2.2.2.2.2.2.2.2.1,v4.2.2.2.2.2.2.2.2.2.2.2,()),()),(v5,()))
abbrev ySq (v0:List dW) (v1:Int) (v2 v3:dA) (v4:List dW):(yhA).X:=((((),()),((),()),((),()),(v0,()),(v1,()),((),()),()),((v2.1,v2.2.1.1,v2.2.1.2,v2.2.2.1,v2.2.2.2.1,v2.2.2.2.2.1,v2.2.2.2.2.2.1,v2.2.2.2.2.2.2.1,v2.2.2.2.2.2.2.2.1,v2.2.2.2.2.2.2.2.2.1,v2.2.2.2.2.2.2.2.2.2.1,v2.2.2.2.2.2.2.2.2.2.2.1,v2.2.2.2.2.2.2.2.2.2.2.2,()),(v3.1,v3.2.1.1,v3.2.1.2,(),v3.2.2.2.1,v3.2.2.2.2.1,v3.2.2.2.2.2.1,v3.2.2.2.2.2.2.1,v3.2.2.2.2.2.2.2.1,(),v3.2.2.2.2.2.2.2.2.2.1,v3.2.2.2.2.2.2.2.2.2.2.1,v3.2.2.2.2.2.2.2.2.2.2.2,()),()),(v4,()))
abbrev ySg (v0 v1:dA) (v2:List dW):(yhl).X:=((((),()),((),()),((),()),()),((v0.1,v0.2.1.1,v0.2.1.2,v0.2.2.1,v0.2.2.2.1,v0.2.2.2.2.1,v0.2.2.2.2.2.1,v0.2.2.2.2.2.2.1,v0.2.2.2.2.2.2.2.1,v0.2.2.2.2.2.2.2.2.1,v0.2.2.2.2.2.2.2.2.2.1,v0.2.2.2.2.2.2.2.2.2.2.1,v0.2.2.2.2.2.2.2.2.2.2.2,()),(v1.1,v1.2.1.1,v1.2.1.2,(),v1.2.2.2.1,v1.2.2.2.2.1,v1.2.2.2.2.2.1,v1.2.2.2.2.2.2.1,v1.2.2.2.2.2.2.2.1,(),v1.2.2.2.2.2.2.2.2.2.1,v1.2.2.2.2.2.2.2.2.2.2.1,v1.2.2.2.2.2.2.2.2.2.2.2,()),()),(v2,()))
def ytA (v0:List dW) (v1 v2 v3 v4 v5:Int) (v6:List dM) (v7 v8 v9 v10 v11:Int) (v12:List dW) (v13:Int) (v14 v15:Bool) (v16 v17 v18 v19 v20 v21 v22 v23 v24:Int) (v25 v26:Bool) (v27:List dW):Option ((yb9).X ⊕ ((yhl).X ⊕ (yl5).X)) :=
 bif (ltb v2 v1) then
 bif (inb v2 v0.length) then
 let r2:=yo ((nth v0 v2 (0,[])).2)
 bif (zjQ v27.length ([((nth v0 v2 (0,[])).1,r2)]:List dW).length 32) then
 some (.inl ((((),()),((),()),((),()),(v0,()),(v1,()),((IntKind.i64.wrap (v2+1)),()),()),((v3,v4,v5,v6,v7,v8,v9,v10,v11,v12,v13,v14,v15,()),(v16,v17,v18,(),v19,v20,v21,v22,v23,(),v24,v25,v26,()),()),((v27++([((nth v0 v2 (0,[])).1,r2)]:List dW)),())))
 else none
 else none
 else
 some (.inr (.inl ((((),()),((),()),((),()),()),((v3,v4,v5,v6,v7,v8,v9,v10,v11,v12,v13,v14,v15,()),(v16,v17,v18,(),v19,v20,v21,v22,v23,(),v24,v25,v26,()),()),(v27,()))))
def ycy (x:(yb9).X):=ytA x.1.2.2.2.1.1 x.1.2.2.2.2.1.1 x.1.2.2.2.2.2.1.1 x.2.1.1.1 x.2.1.1.2.1 x.2.1.1.2.2.1 x.2.1.1.2.2.2.1 x.2.1.1.2.2.2.2.1 x.2.1.1.2.2.2.2.2.1 x.2.1.1.2.2.2.2.2.2.1 x.2.1.1.2.2.2.2.2.2.2.1 x.2.1.1.2.2.2.2.2.2.2.2.1 x.2.1.1.2.2.2.2.2.2.2.2.2.1 x.2.1.1.2.2.2.2.2.2.2.2.2.2.1 x.2.1.1.2.2.2.2.2.2.2.2.2.2.2.1 x.2.1.1.2.2.2.2.2.2.2.2.2.2.2.2.1 x.2.1.2.1.1 x.2.1.2.1.2.1 x.2.1.2.1.2.2.1 x.2.1.2.1.2.2.2.2.1 x.2.1.2.1.2.2.2.2.2.1 x.2.1.2.1.2.2.2.2.2.2.1 x.2.1.2.1.2.2.2.2.2.2.2.1 x.2.1.2.1.2.2.2.2.2.2.2.2.1 x.2.1.2.1.2.2.2.2.2.2.2.2.2.2.1 x.2.1.2.1.2.2.2.2.2.2.2.2.2.2.2.1 x.2.1.2.1.2.2.2.2.2.2.2.2.2.2.2.2.1 x.2.2.1
def yDk (x:(yhA).X):(yb9).X:=((((),()),((),()),((),()),(x.1.2.2.2.1.1,()),(x.1.2.2.2.2.1.1,()),(0,()),()),((x.2.1.1.1,x.2.1.1.2.1,x.2.1.1.2.2.1,x.2.1.1.2.2.2.1,x.2.1.1.2.2.2.2.1,x.2.1.1.2.2.2.2.2.1,x.2.1.1.2.2.2.2.2.2.1,x.2.1.1.2.2.2.2.2.2.2.1,x.2.1.1.2.2.2.2.2.2.2.2.1,x.2.1.1.2.2.2.2.2.2.2.2.2.1,x.2.1.1.2.2.2.2.2.2.2.2.2.2.1,x.2.1.1.2.2.2.2.2.2.2.2.2.2.2.1,x.2.1.1.2.2.2.2.2.2.2.2.2.2.2.2.1,()),(x.2.1.2.1.1,x.2.1.2.1.2.1,x.2.1.2.1.2.2.1,(),x.2.1.2.1.2.2.2.2.1,x.2.1.2.1.2.2.2.2.2.1,x.2.1.2.1.2.2.2.2.2.2.1,x.2.1.2.1.2.2.2.2.2.2.2.1,x.2.1.2.1.2.2.2.2.2.2.2.2.1,(),x.2.1.2.1.2.2.2.2.2.2.2.2.2.2.1,x.2.1.2.1.2.2.2.2.2.2.2.2.2.2.2.1,x.2.1.2.1.2.2.2.2.2.2.2.2.2.2.2.2.1,()),()),(x.2.2.1,()))
def yFc:Code:=(zdD ymO 64 116).getD .skip
theorem yTN:zdD ymO 64 29=some (.block 0 (.loop yFc)):=by kernel_rfl
theorem yV2 (x:(yb9).X):zg0 ⟨ytS,31,yGK⟩ 0 yFc 116 yb9 yhl yl5 x=ycy x:=by kernel_rfl
def yDC (x:(yhA).X):Nat:=18446744073709551616
def yuW (x:(yhA).X):Option ((yhl).X ⊕ (yl5).X):=zz ycy (yDC x) (yDk x)
def yD5:Seg:=⟨yhA,yhl,yl5,yuW⟩
def yGL:Nat→Option Seg:=fun q=>bif Nat.beq q 29 then some yD5 else yGK q
theorem yUg:FrOk Tryz.prog ⟨ytS,31,yGL⟩ ymO:=(yUf).loop (sg:=yD5) yb9 yDk (by decide) yTN ycy yDC (by decide) (fun _=>rfl) (fun x r _ h=>h) yV2
abbrev yic:List Par:= [.rd tA]
abbrev yt6:List OT:= [⟨false,tA,(.pr .fz (.pr (.pr .fz .fz) (.pr (.ow (.pr (.ow (.ow .fz)) (.pr (.ow (.pr .fz (.ow .fz))) (.pr .fz (.ow .fz))))) (.pr .fz (.pr .fz (.pr .fz (.pr .fz (.pr .fz (.pr (.ow (.pr .fz (.ow .fz))) (.pr .fz (.pr .fz .fz)))))))))))⟩]
def yoZ (a0:dA):Option (ResD yt6×MutD yic) :=
 zjY (yuW ((((),()),((),()),((),()),(a0.2.2.2.2.2.2.2.2.1,()),((a0.2.2.2.2.2.2.2.2.1.length:Int),()),((),()),()),((a0.1,a0.2.1.1,a0.2.1.2,a0.2.2.1,a0.2.2.2.1,a0.2.2.2.2.1,a0.2.2.2.2.2.1,a0.2.2.2.2.2.2.1,a0.2.2.2.2.2.2.2.1,a0.2.2.2.2.2.2.2.2.1,a0.2.2.2.2.2.2.2.2.2.1,a0.2.2.2.2.2.2.2.2.2.2.1,a0.2.2.2.2.2.2.2.2.2.2.2,()),(0,0,0,(),0,0,0,0,0,(),0,false,false,()),()),(([]:List dW),()))) (fun y2 =>
 let r4:=ygW y2.2.1.1.2.2.2.1
 some (((y2.2.1.1.1,(y2.2.1.1.2.1,y2.2.1.1.2.2.1),r4,y2.2.1.1.2.2.2.2.1,y2.2.1.1.2.2.2.2.2.1,y2.2.1.1.2.2.2.2.2.2.1,y2.2.1.1.2.2.2.2.2.2.2.1,y2.2.1.1.2.2.2.2.2.2.2.2.1,y2.2.2.1,y2.2.1.1.2.2.2.2.2.2.2.2.2.2.1,y2.2.1.1.2.2.2.2.2.2.2.2.2.2.2.1,y2.2.1.1.2.2.2.2.2.2.2.2.2.2.2.2.1),()),())) (fun y2 =>
 none)
theorem y4Z (x:InD yic):zjw ⟨ytS,31,yGL⟩ Tryz.f98.results.toList ymO yic yt6 x=yoZ x.1:=by kernel_rfl
theorem yZf:ConOk Tryz.prog 98 ⟨yic,yt6,fun x=>yoZ x.1⟩:=zj1 (yUg) Tryz.func98 (by kernel_rfl) (by kernel_rfl) Tryz.ntmps98.symm (by decide) (fun x r h=>(y4Z x).trans h)
def yfF (a0:dA):dA:=a0
theorem y2P (a0:dA) (hk:zi1 yic (a0,())):yoZ a0=(fun n=>some ((n,()),())) (yfF a0):=by
 have hb:a0.2.2.2.2.2.2.2.2.1.length * 32≤2 ^ 47:=hk.1.2.2.2.2.2.2.2.2.1.1
 have h1:=zj3 (step:=ycy) a0.2.2.2.2.2.2.2.2.1 (0,[]) (fun i s=>ytd a0.2.2.2.2.2.2.2.2.1 a0.2.2.2.2.2.2.2.2.1.length i a0 yK s) (fun s x=>s++ [x]) (fun i s=>s.length=i) (fun s=> .inl (ySg a0 yK s)) (fun i s hi hs=>⟨by
   simp only [ycy,ytd,ytA,zj4 (show (i:Int) < a0.2.2.2.2.2.2.2.2.1.length by omega),cond_true,wr (show -9223372036854775808≤(i:Int)+1 by omega) (by omega),Int.natCast_add,Int.natCast_one,Int.toNat_natCast,zkl hi,zkm,yo,zkr]
   rw [zka.2 (show (s.length+ [a0.2.2.2.2.2.2.2.2.1.getD i (0,[])].length) * 32≤140737488355328 by simp only [List.length_cons,List.length_nil]; omega)]; rfl,by simp [hs]⟩) (fun s hs=>by simp only [ycy,ytd,ytA,zkx (Int.le_refl _),cond_false]) [] rfl 18446744073709551616 (by omega)
 rw [yxt]at h1
 unfold yoZ yfF
 rw [show yuW (ySq a0.2.2.2.2.2.2.2.2.1 a0.2.2.2.2.2.2.2.2.1.length a0 yK [])=_ from h1]; rfl
def yxm:Con:=⟨yic,yt6,fun x=>(fun n=>some ((n,()),())) (yfF x.1)⟩
theorem yK8:ConOk Tryz.prog 98 yxm:=(yZf).mono (fun x r hk h=>(y2P x.1 hk).trans h)
end
section
def yEF:Code:=(Tryz.f223.body).getD .skip
def yE7:Env:=zj2 TT [] []
theorem yND:FrOk Tryz.prog ⟨yE7,7,fun _=>none⟩ yEF:=zj6 yc yd trivial
def yPy:Nat→Option Seg:=fun _=>none
abbrev yhg:List Par:= [.rd tI,.rp tI]
abbrev yl1:List OT:= [⟨false,tB,.fz⟩]
def yqR (a0 a1:Int):Option (ResD yl1×MutD yhg) :=
 some (((a0==a1),()),())
theorem yT4 (x:InD yhg):zjw ⟨yE7,7,yPy⟩ Tryz.f223.results.toList yEF yhg yl1 x=yqR x.1 x.2.1:=by kernel_rfl
theorem yQj:ConOk Tryz.prog 223 ⟨yhg,yl1,fun x=>yqR x.1 x.2.1⟩:=zj1 (yND) Tryz.func223 (by kernel_rfl) (by kernel_rfl) Tryz.ntmps223.symm (by decide) (fun x r h=>(yT4 x).trans h)
def yer (a0 a1:Int):Bool :=
 (a0==a1)
def yqD:Con:=⟨yhg,yl1,fun x=>(fun n=>some ((n,()),())) (yer x.1 x.2.1)⟩
theorem ySL (a0 a1:Int):yqR a0 a1=(fun n=>some ((n,()),())) (yer a0 a1):=zkp (p:=fun (n:Bool)=>((n,()),())) rfl
theorem yD2:ConOk Tryz.prog 223 yqD:=(yQj).mono (fun x r _ h=>(ySL x.1 x.2.1).trans h)
end
section
def ycN:Code:=(Tryz.f268.body).getD .skip
def yfT:Env:=zj2 TT [(223,yqD)] []
theorem yGr:FrOk Tryz.prog ⟨yfT,19,fun _=>none⟩ ycN:=zj6 yc yd ⟨yD2,trivial⟩
def ysB:Nat→Option Seg:=fun _=>none
def yV:Shape:=⟨[(0,false,[.br tI]),(1,false,[.fx 223 tI]),(7,false,[.int .i64]),(8,false,[.int .i64])],[],[]⟩
def ya9:Shape:=⟨[(0,false,[.br tI]),(1,false,[.fx 223 tI]),(7,false,[.int .i64]),(8,false,[.ci .i64 0])],[],[]⟩
def ya8:Shape:=⟨[],[],[]⟩
def yba:Shape:=⟨[(4,false,[.int .i64])],[],[]⟩
abbrev yg8 (v0:List Int) (v1 v2 v3:Int):(yV).X:=(((v0,()),(v1,()),(v2,()),(v3,()),()),(),())
abbrev yEs (v0:List Int) (v1 v2:Int):(ya9).X:=(((v0,()),(v1,()),(v2,()),((),()),()),(),())
abbrev yEr  :(ya8).X:=((),(),())
abbrev yp5 (v0:Int):(yba).X:=(((v0,()),()),(),())
def yhc (v0:List Int) (v1 v2 v3:Int):Option ((yV).X ⊕ ((ya8).X ⊕ (yba).X)) :=
 bif (ltb v3 v2) then
 bif (inb v3 v0.length) then
 let r2:=yer (nth v0 v3 0) v1
 bif r2 then
 some (.inr (.inr (((v3,()),()),(),())))
 else
 some (.inl (((v0,()),(v1,()),(v2,()),((IntKind.i64.wrap (v3+1)),()),()),(),()))
 else none
 else
 some (.inr (.inl ((),(),())))
def yac (x:(yV).X):=yhc x.1.1.1 x.1.2.1.1 x.1.2.2.1.1 x.1.2.2.2.1.1
def yp2 (x:(ya9).X):(yV).X:=(((x.1.1.1,()),(x.1.2.1.1,()),(x.1.2.2.1.1,()),(0,()),()),(),())
def yrQ:Code:=(zdD ycN 64 52).getD .skip
theorem yGq:zdD ycN 64 13=some (.block 0 (.loop yrQ)):=by kernel_rfl
theorem yGw (x:(yV).X):zg0 ⟨yfT,19,ysB⟩ 0 yrQ 52 yV ya8 yba x=yac x:=by kernel_rfl
def yp3 (x:(ya9).X):Nat:=18446744073709551616
def yhZ (x:(ya9).X):Option ((ya8).X ⊕ (yba).X):=zz yac (yp3 x) (yp2 x)
def yqo:Seg:=⟨ya9,ya8,yba,yhZ⟩
def ysC:Nat→Option Seg:=fun q=>bif Nat.beq q 13 then some yqo else ysB q
theorem yGs:FrOk Tryz.prog ⟨yfT,19,ysC⟩ ycN:=(yGr).loop (sg:=yqo) yV yp2 (by decide) yGq yac yp3 (by decide) (fun _=>rfl) (fun x r _ h=>h) yGw
abbrev yaR:List Par:= [.rd tL,.fn 223 tI]
abbrev yfU:List OT:= [⟨false,tI,.fz⟩]
def yem (a0:List Int) (a1:Int):Option (ResD yfU×MutD yaR) :=
 zjY (yhZ (((a0,()),(a1,()),((a0.length:Int),()),((),()),()),(),())) (fun y2 =>
 some (((-1),()),())) (fun y2 =>
 some ((y2.1.1.1,()),()))
theorem yLr (x:InD yaR):zjw ⟨yfT,19,ysC⟩ Tryz.f268.results.toList ycN yaR yfU x=yem x.1 x.2.1:=by kernel_rfl
theorem yIr:ConOk Tryz.prog 268 ⟨yaR,yfU,fun x=>yem x.1 x.2.1⟩:=zj1 (yGs) Tryz.func268 (by kernel_rfl) (by kernel_rfl) Tryz.ntmps268.symm (by decide) (fun x r h=>(yLr x).trans h)
def ycP (a0:List Int) (a1:Int):Int:=yR (fun e:Int=>e==a1) a0
theorem yI3 (a0:List Int) (a1:Int) (hk:zi1 yaR (a0,a1,())):yem a0 a1=(fun n=>some ((n,()),())) (ycP a0 a1):=by
 have hb:a0.length * 8≤2 ^ 47:=hk.1.1
 have h1:yhZ (yEs a0 a1 a0.length)=some (bif leb 0 (yR (fun e:Int=>e==a1) a0) then .inr (yp5 (yR (fun e:Int=>e==a1) a0)) else .inl yEr) :=
  yKZ (step:=yac) a0 0 (fun i=>yg8 a0 a1 a0.length i) (fun e:Int=>e==a1) (fun i=> .inr (yp5 i)) _ (fun i hi=>by
   simp only [yac,yg8,yhc,zj4 (show (i:Int) < a0.length by omega),cond_true,wr (show -9223372036854775808≤(i:Int)+1 by omega) (by omega),Int.natCast_add,Int.natCast_one,Int.toNat_natCast,zkl hi,zkm,yer]
   cases (a0.getD i 0==a1)<;>rfl) (by simp only [yac,yg8,yhc,zkx (Int.le_refl _),cond_false]) _ (by show _ < 18446744073709551616; omega)
 unfold yem ycP
 rw [h1]
 cases h:leb 0 (yR (fun e:Int=>e==a1) a0)
 ·rw [y5z h]; rfl
 ·rfl
def ys7:Con:=⟨yaR,yfU,fun x=>(fun n=>some ((n,()),())) (ycP x.1 x.2.1)⟩
theorem yI5:ConOk Tryz.prog 268 ys7:=(yIr).mono (fun x r hk h=>(yI3 x.1 x.2.1 hk).trans h)
end
end
end Go.Tf
