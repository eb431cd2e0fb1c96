/- Functions of the program, and what they come to. -/
import Derived.Test.YtcpidpnglekceaaGreatWordsBentF11
namespace Go.Tf
noncomputable section
open Go.Proofs
set_option synthInstance.maxHeartbeats 400000
set_option synthInstance.maxSize 10000
set_option linter.unusedVariables false
set_option linter.unusedSimpArgs false
set_option maxRecDepth 100000
section
def ykE:Code:=(Tryz.f203.body).getD .skip
def yo6:Env:=zki TT [(109,ycU),(124,yD),(204,yq2),(209,yn7),(250,ywZ)] [(25088,(.pr .fz .fz)),(53440,(.pr .fz .fz)),(61440,.fz)]
theorem yIm:FrOk Tryz.prog ⟨yo6,62,fun _=>none⟩ ykE:=zkp ye yf ⟨yfs,yL,yAq,yxd,yMf,trivial⟩
def yxX:Nat→Option Seg:=fun _=>none
def yaF:Shape:=⟨[(0,false,[.ptr 1000000000 0]),(2,false,[.ptr 0 0]),(3,false,[.ptr 4224 0])],[(0,[.nil,.nil,.bool,.nil]),(4224,[.at 800000000,.at 800000001,.bool,.at 800000002]),(1000000000,[.fz tY,.int .i64,.int .i64])],[(800000000,tL,.fz),(800000001,tW,(.pr .fz .fz)),(800000002,tI,.fz)]⟩
def yc6:Shape:=⟨[(0,false,[.ptr 1000000000 0]),(2,false,[.ptr 0 0]),(3,false,[.ptr 4224 0])],[(0,[.nil,.nil,.bool,.nil]),(4224,[.at 800000000,.at 800000001,.bool,.at 800000002]),(1000000000,[.fz tY,.int .i64,.int .i64])],[(800000000,tL,.fz),(800000001,tW,(.pr .fz .fz)),(800000002,tI,.fz)]⟩
def yc4:Shape:=⟨[(2,false,[.ptr 0 0]),(3,false,[.ptr 4224 0])],[(0,[.nil,.nil,.bool,.nil]),(4224,[.at 800000000,.at 800000001,.bool,.at 800000002]),(1000000000,[.fz tY,.int .i64,.int .i64])],[(800000000,tL,.fz),(800000001,tW,(.pr .fz .fz)),(800000002,tI,.fz)]⟩
def ygo:Shape:=⟨[],[],[]⟩
abbrev ye4 (v0:dM) (v1:dM) (v2:dU):(yaF).X:=((((),()),((),()),((),()),()),(((),(),v0.2.2.1,(),()),((),(),v1.2.2.1,(),()),(v2.1,v2.2.1,v2.2.2,()),()),(v1.1,v1.2.1,v1.2.2.2,()))
abbrev yAF (v0:dM) (v1:dM) (v2:dU):(yc6).X:=((((),()),((),()),((),()),()),(((),(),v0.2.2.1,(),()),((),(),v1.2.2.1,(),()),(v2.1,v2.2.1,v2.2.2,()),()),(v1.1,v1.2.1,v1.2.2.2,()))
abbrev yAD (v0:dM) (v1:dM) (v2:dU):(yc4).X:=((((),()),((),()),()),(((),(),v0.2.2.1,(),()),((),(),v1.2.2.1,(),()),(v2.1,v2.2.1,v2.2.2,()),()),(v1.1,v1.2.1,v1.2.2.2,()))
def ye6 (v0:Bool) (v1:Bool) (v2:List Int) (v3:Int) (v4:Int) (v5:List (List Int)) (v6:List dW) (v7:List Int):Option ((yaF).X ⊕ ((yc4).X ⊕ (ygo).X)) :=
  bnd (ya (v2,v3,v4) 3) fun r9 =>
  bif (ltb (v6.length:Int) (IntKind.i64.wrap (59+r9.1.1))) then
    bif (zj4 v6.length ([(0,[])]:List dW).length 32) then
      some (.inl ((((),()),((),()),((),()),()),(((),(),v0,(),()),((),(),v1,(),()),(r9.2.1.1,r9.2.1.2.1,r9.2.1.2.2,()),()),(v5,(v6++([(0,[])]:List dW)),v7,())))
    else none
  else
    some (.inr (.inl ((((),()),((),()),()),(((),(),v0,(),()),((),(),v1,(),()),(r9.2.1.1,r9.2.1.2.1,r9.2.1.2.2,()),()),(v5,v6,v7,()))))
def yai (x:(yaF).X):=ye6 x.2.1.1.2.2.1 x.2.1.2.1.2.2.1 x.2.1.2.2.1.1 x.2.1.2.2.1.2.1 x.2.1.2.2.1.2.2.1 x.2.2.1 x.2.2.2.1 x.2.2.2.2.1
def yqI (x:(yc6).X):(yaF).X:=((((),()),((),()),((),()),()),(((),(),x.2.1.1.2.2.1,(),()),((),(),x.2.1.2.1.2.2.1,(),()),(x.2.1.2.2.1.1,x.2.1.2.2.1.2.1,x.2.1.2.2.1.2.2.1,()),()),(x.2.2.1,x.2.2.2.1,x.2.2.2.2.1,()))
def yrG:Code:=(zdI ykE 64 241656).getD .skip
theorem yBq:zdI ykE 64 60414=some (.block 1 (.loop yrG)):=by kernel_rfl
theorem yCi (x:(yaF).X):zg7 ⟨yo6,62,yxX⟩ 1 yrG 241656 yaF yc4 ygo x=yai x:=by kernel_rfl
def yqL (x:(yc6).X):Nat:=(fun (u0:Bool) (u1:Bool) (u2:List Int) (u3:Int) (u4:Int) (u5:List (List Int)) (u6:List dW) (u7:List Int)=>18446744073709551616) x.2.1.1.2.2.1 x.2.1.2.1.2.2.1 x.2.1.2.2.1.1 x.2.1.2.2.1.2.1 x.2.1.2.2.1.2.2.1 x.2.2.1 x.2.2.2.1 x.2.2.2.2.1
def ykL (x:(yc6).X):Option ((yc4).X ⊕ (ygo).X):=zr yai (yqL x) (yqI x)
def yqP:Seg:=⟨yc6,yc4,ygo,ykL⟩
def yxY:Nat→Option Seg:=fun q=>bif Nat.beq q 60414 then some yqP else yxX q
theorem yIn:FrOk Tryz.prog ⟨yo6,62,yxY⟩ ykE:=(yIm).loop (sg:=yqP) yaF yqI (by decide) yBq yai yqL (by decide) (fun _=>rfl) (fun x r _ h=>h) yCi
abbrev ykU:List Par:= [.pt tU .fz]
abbrev ypM:List OT:= [⟨false,tM,(.pr (.ow .fz) (.pr (.ow (.pr .fz .fz)) (.pr .fz (.ow .fz))))⟩]
def yec (a0:dU):Option (ResD ypM×MutD ykU) :=
  bnd (ydq a0) fun r1 =>
  bnd (ya r1.2.1 14) fun r2 =>
  bif (r2.1.1==0) then
    bnd (ybx r2.2.1) fun r3 =>
    bif (inb 0 r1.1.1.1.length) then
      some ((((r1.1.1.1.set (0:Int).toNat r3.1.1),r1.1.1.2),()),(r3.2.1,()))
    else none
  else
    bif (r2.1.1==1) then
      bnd (yy r2.2.1 ([(-1),0,9]:List Int)) fun r4 =>
      bnd (ybx r4.2.1) fun r5 =>
      bif (zj4 r1.1.1.2.1.length ([(r4.1.1,r5.1.1)]:List dW).length 32) then
        some (((r1.1.1.1,(r1.1.1.2.1++([(r4.1.1,r5.1.1)]:List dW)),r1.1.1.2.2),()),(r5.2.1,()))
      else none
    else
      bif (r2.1.1==2) then
        bnd (yy r2.2.1 ([(-1),0,9]:List Int)) fun r6 =>
        bif (zj4 r1.1.1.2.2.2.length ([r6.1.1]:List Int).length 8) then
          some (((r1.1.1.1,r1.1.1.2.1,r1.1.1.2.2.1,(r1.1.1.2.2.2++([r6.1.1]:List Int))),()),(r6.2.1,()))
        else none
      else
        bif (r2.1.1==3) then
          let r7:=yhP r1.1.1
          some ((r7,()),(r2.2.1,()))
        else
          bif (r2.1.1==4) then
            zjw (ykL ((((),()),((),()),((),()),()),(((),(),false,(),()),((),(),r1.1.1.2.2.1,(),()),(r2.2.1.1,r2.2.1.2.1,r2.2.1.2.2,()),()),(r1.1.1.1,r1.1.1.2.1,r1.1.1.2.2.2,()))) (fun y9 =>
              some (((y9.2.2.1,y9.2.2.2.1,y9.2.1.2.1.2.2.1,y9.2.2.2.2.1),()),((y9.2.1.2.2.1.1,y9.2.1.2.2.1.2.1,y9.2.1.2.2.1.2.2.1),()))) (fun y9 =>
              none)
          else
            bif (r2.1.1==5) then
              some (((([]:List (List Int)),r1.1.1.2),()),(r2.2.1,()))
            else
              some ((r1.1.1,()),(r2.2.1,()))
theorem yOF (x:InD ykU):zjH ⟨yo6,62,yxY⟩ Tryz.f203.results.toList ykE ykU ypM x=yec x.1:=by kernel_rfl
theorem yLM:ConOk Tryz.prog 203 ⟨ykU,ypM,fun x=>yec x.1⟩:=zkh (yIn) Tryz.func203 (by kernel_rfl) (by kernel_rfl) Tryz.ntmps203.symm (by decide) (fun x r h=>(yOF x).trans h)
def yyu:Con:=⟨ykU,ypM,fun x=>yec x.1⟩
theorem yN1:ConOk Tryz.prog 203 yyu:=yLM
theorem yMy: ∀ (n:Nat) (m:dM) (u:dU) (fuel:Nat),n < fuel→yM u→m.2.1.length+n=62∨(n=0∧61≤m.2.1.length∧m.2.1.length≤100) →
    ∃ (m':dM) (u':dU),zr yai fuel (ye4 yg m u)=some (.inl (yAD yg m' u'))∧yM u'
  | 0,m,u,fuel+1,_,hu,hn=>by
    obtain ⟨r,u1,e1,q1,d1⟩:=yB u 3 hu
    have:=q1.1; have:=q1.2.1 (by omega)
    refine ⟨m,u1,?_,d1⟩
    rw [zr]
    simp only [yai,ye4,ye6,zkV,e1,zky,wr (show -9223372036854775808≤59+r by omega) (by omega),zkm (show 59+r≤(m.2.1.length:Int) by omega),cond_false]
  | n+1,m,u,fuel+1,hf,hu,hn=>by
    obtain ⟨r,u1,e1,q1,d1⟩:=yB u 3 hu
    have:=q1.1; have:=q1.2.1 (by omega)
    by_cases hlt:(m.2.1.length:Int) < 59+r
    · obtain ⟨m',u',e2,d2⟩:=yMy n (m.1,m.2.1++ [(0,[])],m.2.2) u1 fuel (by omega) d1 (.inl (by
        show (m.2.1++ [((0:Int),([]:List Int))]).length+n=62
        rw [List.length_append]; simp only [List.length_cons,List.length_nil]; omega))
      refine ⟨m',u',?_,d2⟩
      rw [← e2,zr]
      simp only [yai,ye4,ye6,zkV,e1,zky,wr (show -9223372036854775808≤59+r by omega) (by omega),zjI hlt,cond_true,zkw.2 (show (m.2.1.length+ [((0:Int),([]:List Int))].length) * 32≤140737488355328 by simp only [List.length_cons,List.length_nil]; omega)]
    · refine ⟨m,u1,?_,d1⟩
      rw [zr]
      simp only [yai,ye4,ye6,zkV,e1,zky,wr (show -9223372036854775808≤59+r by omega) (by omega),zkm (show 59+r≤(m.2.1.length:Int) by omega),cond_false]
theorem yQs (u:dU) (h:yM u): ∃ (m:dM) (u':dU),yec u=some ((m,()),(u',()))∧yM u':=by
  unfold yec
  obtain ⟨m,u1,e1,q1,d1⟩:=yP1 u h
  obtain ⟨r,u2,e2,_,d2⟩:=yB u1 14 d1
  obtain ⟨h1,h2,h3,h4,h5,h6⟩:=yaI q1
  rw [yh1]at h3
  have hlen:=yyj h3.2 (lo:=0) (n:=m.1.length) h3.1 (by omega)
  simp only [e1,e2,zky]
  cases (r==0)
  · cases (r==1)
    · cases (r==2)
      · cases (r==3)
        · cases (r==4)
          · cases (r==5)
            · exact ⟨_,_,rfl,d2⟩
            · exact ⟨_,_,rfl,d2⟩
          · obtain ⟨m',u',e3,d3⟩:=yMy (62 - m.2.1.length) m u2 18446744073709551616 (by omega) d2 (.inl (by omega))
            simp only [cond_true,cond_false]
            refine ⟨m',u',?_,d3⟩
            exact (congrArg (fun z=>zjw z _ _) (show ykL (yAF yg m u2)=_ from e3)).trans rfl
        · exact ⟨_,_,rfl,d2⟩
      · obtain ⟨x,u3,e3,_,d3⟩:=yjb u2 [(-1),0,9] d2 (by simp)
        simp only [cond_true,cond_false,e3,zky]
        rw [zkw.2 (show (m.2.2.2.length+ [x].length) * 8≤140737488355328 by simp only [List.length_cons,List.length_nil]; omega)]
        exact ⟨_,_,rfl,d3⟩
    · obtain ⟨x,u3,e3,_,d3⟩:=yjb u2 [(-1),0,9] d2 (by simp)
      obtain ⟨l,u4,e4,_,d4⟩:=yEq u3 d3
      simp only [cond_true,cond_false,e3,zky,e4]
      rw [zkw.2 (show (m.2.1.length+ [(x,l)].length) * 32≤140737488355328 by simp only [List.length_cons,List.length_nil]; omega)]
      exact ⟨_,_,rfl,d4⟩
  · obtain ⟨l,u3,e3,_,d3⟩:=yEq u2 d2
    simp only [cond_true,e3,zky]
    rw [show inb 0 m.1.length=true from zkO (i:=0) (by omega)]
    exact ⟨_,_,rfl,d3⟩
end
section
def yA3:Code:=(Tryz.f105.body).getD .skip
def yBk:Env:=zki TT [(109,ycU),(121,yb3),(124,yD),(176,yw0),(181,yyv),(203,yyu),(204,yq2),(205,ylJ)] [(61952,(.pr .fz .fz))]
theorem yIs:FrOk Tryz.prog ⟨yBk,92,fun _=>none⟩ yA3:=zkp ye yf ⟨yfs,yea,yL,yMg,yN2,yN1,yAq,ysl,trivial⟩
def yKt:Nat→Option Seg:=fun _=>none
abbrev ykX:List Par:= [.pt tU .fz,.rd tI]
abbrev ypQ:List OT:= [⟨false,tA,(.pr .fz (.pr (.pr .fz .fz) (.pr (.ow (.pr (.ow .fz) (.pr (.ow (.pr .fz .fz)) (.pr .fz (.ow .fz))))) (.pr .fz (.pr .fz (.pr .fz (.pr .fz (.pr .fz (.pr (.ow (.pr .fz .fz)) (.pr .fz (.pr .fz .fz)))))))))))⟩]
def yef (a0:dU) (a1:Int):Option (ResD ypQ×MutD ykX) :=
  bnd (ydr a0 a1) fun r1 =>
  bnd (ya r1.2.1 (r1.1.1.2.2.1.length:Int)) fun r2 =>
  bnd (ya r2.2.1 20) fun r3 =>
  bif (r3.1.1==0) then
    bnd (yec r3.2.1) fun r4 =>
    bif (inb r2.1.1 r1.1.1.2.2.1.length) then
      some (((r1.1.1.1,r1.1.1.2.1,(r1.1.1.2.2.1.set (r2.1.1).toNat r4.1.1),r1.1.1.2.2.2),()),(r4.2.1,()))
    else none
  else
    bif (r3.1.1==1) then
      bnd (yy r3.2.1 ([(-2),(-1),0,5]:List Int)) fun r5 =>
      some (((r1.1.1.1,r1.1.1.2.1,r1.1.1.2.2.1,r5.1.1,r1.1.1.2.2.2.2),()),(r5.2.1,()))
    else
      bif (r3.1.1==2) then
        bnd (yy r3.2.1 ([(-1),1,9]:List Int)) fun r6 =>
        some (((r1.1.1.1,r1.1.1.2.1,r1.1.1.2.2.1,r1.1.1.2.2.2.1,r6.1.1,r1.1.1.2.2.2.2.2),()),(r6.2.1,()))
      else
        bif (r3.1.1==3) then
          bnd (yy r3.2.1 ([(-1),0,9,60000]:List Int)) fun r7 =>
          some (((r1.1.1.1,r1.1.1.2.1,r1.1.1.2.2.1,r1.1.1.2.2.2.1,r1.1.1.2.2.2.2.1,r7.1.1,r1.1.1.2.2.2.2.2.2),()),(r7.2.1,()))
        else
          bif (r3.1.1==4) then
            bnd (yy r3.2.1 ([(-1),60000,59990,60001]:List Int)) fun r8 =>
            some (((r1.1.1.1,r1.1.1.2.1,r1.1.1.2.2.1,r1.1.1.2.2.2.1,r1.1.1.2.2.2.2.1,r1.1.1.2.2.2.2.2.1,r1.1.1.2.2.2.2.2.2.1,r8.1.1,r1.1.1.2.2.2.2.2.2.2.2),()),(r8.2.1,()))
          else
            bif (r3.1.1==5) then
              bnd (ya r3.2.1 5) fun r9 =>
              bnd (ybx r9.2.1) fun r10 =>
              bif (zj4 r1.1.1.2.2.2.2.2.2.2.2.1.length ([((IntKind.i64.wrap (r9.1.1 - 1)),r10.1.1)]:List dW).length 32) then
                some (((r1.1.1.1,r1.1.1.2.1,r1.1.1.2.2.1,r1.1.1.2.2.2.1,r1.1.1.2.2.2.2.1,r1.1.1.2.2.2.2.2.1,r1.1.1.2.2.2.2.2.2.1,r1.1.1.2.2.2.2.2.2.2.1,(r1.1.1.2.2.2.2.2.2.2.2.1++([((IntKind.i64.wrap (r9.1.1 - 1)),r10.1.1)]:List dW)),r1.1.1.2.2.2.2.2.2.2.2.2),()),(r10.2.1,()))
              else none
            else
              bif (r3.1.1==6) then
                some (((r1.1.1.1,r1.1.1.2.1,r1.1.1.2.2.1,r1.1.1.2.2.2.1,r1.1.1.2.2.2.2.1,r1.1.1.2.2.2.2.2.1,r1.1.1.2.2.2.2.2.2.1,r1.1.1.2.2.2.2.2.2.2.1,r1.1.1.2.2.2.2.2.2.2.2.1,r1.1.1.2.2.2.2.2.2.2.2.2.1,r1.1.1.2.2.2.2.2.2.2.2.2.2.1,true),()),(r3.2.1,()))
              else
                bif (r3.1.1==7) then
                  bnd (yy r3.2.1 ([(-2),0,1,2,5,1001]:List Int)) fun r11 =>
                  some (((r1.1.1.1,r1.1.1.2.1,r1.1.1.2.2.1,r1.1.1.2.2.2.1,r1.1.1.2.2.2.2.1,r1.1.1.2.2.2.2.2.1,r1.1.1.2.2.2.2.2.2.1,r1.1.1.2.2.2.2.2.2.2.1,r1.1.1.2.2.2.2.2.2.2.2.1,r11.1.1,r1.1.1.2.2.2.2.2.2.2.2.2.2),()),(r11.2.1,()))
                else
                  bif (r3.1.1==8) then
                    some (((r1.1.1.1,r1.1.1.2.1,r1.1.1.2.2.1,r1.1.1.2.2.2.1,r1.1.1.2.2.2.2.1,r1.1.1.2.2.2.2.2.1,r1.1.1.2.2.2.2.2.2.1,r1.1.1.2.2.2.2.2.2.2.1,r1.1.1.2.2.2.2.2.2.2.2.1,r1.1.1.2.2.2.2.2.2.2.2.2.1,true,r1.1.1.2.2.2.2.2.2.2.2.2.2.2),()),(r3.2.1,()))
                  else
                    bif (r3.1.1==9) then
                      bif (inb r2.1.1 r1.1.1.2.2.1.length) then
                        let r12:=yh 0
                        bnd (yby r3.2.1) fun r13 =>
                        bif (inb r12 ((nth r1.1.1.2.2.1 r2.1.1 ([],[],false,[])).1).length) then
                          let r14:=(r1.1.1.2.2.1.set (r2.1.1).toNat ((((nth r1.1.1.2.2.1 r2.1.1 ([],[],false,[])).1).set (r12).toNat r13.1.1),((nth r1.1.1.2.2.1 r2.1.1 ([],[],false,[])).2).1,(((nth r1.1.1.2.2.1 r2.1.1 ([],[],false,[])).2).2).1,(((nth r1.1.1.2.2.1 r2.1.1 ([],[],false,[])).2).2).2))
                          some (((r1.1.1.1,r1.1.1.2.1,r14,r1.1.1.2.2.2),()),(r13.2.1,()))
                        else none
                      else none
                    else
                      bif (r3.1.1==10) then
                        bnd (yed r3.2.1) fun r15 =>
                        some (((r1.1.1.1,r15.1.1,r1.1.1.2.2),()),(r15.2.1,()))
                      else
                        some ((r1.1.1,()),(r3.2.1,()))
theorem yOJ (x:InD ykX):zjH ⟨yBk,92,yKt⟩ Tryz.f105.results.toList yA3 ykX ypQ x=yef x.1 x.2.1:=by kernel_rfl
theorem yLQ:ConOk Tryz.prog 105 ⟨ykX,ypQ,fun x=>yef x.1 x.2.1⟩:=zkh (yIs) Tryz.func105 (by kernel_rfl) (by kernel_rfl) Tryz.ntmps105.symm (by decide) (fun x r h=>(yOJ x).trans h)
def yyx:Con:=⟨ykX,ypQ,fun x=>yef x.1 x.2.1⟩
theorem yN4:ConOk Tryz.prog 105 yyx:=yLQ
theorem yQu (u:dU) (most:Int) (h:yM u) (h0:0≤most) (h1:most≤1000): ∃ (a:dA) (u':dU),yef u most=some ((a,()),(u',()))∧a.2.2.2.2.2.2.2.2.1.length≤9∧yM u':=by
  unfold yef
  obtain ⟨a,u1,e1,q1,d1⟩:=yP2 u most h h0 h1
  have hg:=yn.1 q1.1.1
  have hl:=q1.2.1.1.2
  have hd:=yrK q1.1.2.2.1 q1.1.1
  obtain ⟨m,u2,e2,q2,d2⟩:=yB u1 (a.2.2.1.length:Int) d1
  obtain ⟨r,u3,e3,_,d3⟩:=yB u2 20 d2
  have hm:inb m a.2.2.1.length=true:=zjP.2 ⟨q2.1,q2.2.1 (by omega)⟩
  simp only [e1,e2,e3,zky,hm]
  cases (r==0)
  · cases (r==1)
    · cases (r==2)
      · cases (r==3)
        · cases (r==4)
          · cases (r==5)
            · cases (r==6)
              · cases (r==7)
                · cases (r==8)
                  · cases (r==9)
                    · cases (r==10)
                      · exact ⟨_,_,rfl,by first | omega | (dsimp only; omega),d3⟩
                      · obtain ⟨g,u4,e4,d4⟩:=yQt u3 d3
                        simp only [cond_true,cond_false,e4,zky]
                        exact ⟨_,_,rfl,by first | omega | (dsimp only; omega),d4⟩
                    · obtain ⟨l,u4,e4,_,d4⟩:=yEr u3 d3
                      have hmi:=zjP.1 hm
                      have hs:=(q1.2.1.1.1 m.toNat (by omega)).2.1
                      rw [Int.toNat_of_nonneg hmi.1]at hs
                      simp only [cond_true,cond_false,e4,zky,ycV]
                      rw [show ycH 0=6 from rfl,zjP.2 (show (0:Int)≤6∧(6:Int) < ((nth a.2.2.1 m yg).1.length:Int) by omega)]
                      exact ⟨_,_,rfl,by first | omega | (dsimp only; omega),d4⟩
                  · exact ⟨_,_,rfl,by first | omega | (dsimp only; omega),d3⟩
                · obtain ⟨x,u4,e4,_,d4⟩:=yjb u3 [(-2),0,1,2,5,1001] d3 (by simp)
                  simp only [cond_true,cond_false,e4,zky]
                  exact ⟨_,_,rfl,by first | omega | (dsimp only; omega),d4⟩
              · exact ⟨_,_,rfl,by first | omega | (dsimp only; omega),d3⟩
            · obtain ⟨x,u4,e4,_,d4⟩:=yB u3 5 d3
              obtain ⟨l,u5,e5,_,d5⟩:=yEq u4 d4
              simp only [cond_true,cond_false,e4,zky,e5]
              rw [zkw.2 (show (a.2.2.2.2.2.2.2.2.1.length+ [(IntKind.i64.wrap (x - 1),l)].length) * 32≤140737488355328 by simp only [List.length_cons,List.length_nil]; omega)]
              exact ⟨_,_,rfl,by simp only [List.length_append,List.length_cons,List.length_nil]; omega,d5⟩
          · obtain ⟨x,u4,e4,_,d4⟩:=yjb u3 [(-1),60000,59990,60001] d3 (by simp)
            simp only [cond_true,cond_false,e4,zky]
            exact ⟨_,_,rfl,by first | omega | (dsimp only; omega),d4⟩
        · obtain ⟨x,u4,e4,_,d4⟩:=yjb u3 [(-1),0,9,60000] d3 (by simp)
          simp only [cond_true,cond_false,e4,zky]
          exact ⟨_,_,rfl,by first | omega | (dsimp only; omega),d4⟩
      · obtain ⟨x,u4,e4,_,d4⟩:=yjb u3 [(-1),1,9] d3 (by simp)
        simp only [cond_true,cond_false,e4,zky]
        exact ⟨_,_,rfl,by first | omega | (dsimp only; omega),d4⟩
    · obtain ⟨x,u4,e4,_,d4⟩:=yjb u3 [(-2),(-1),0,5] d3 (by simp)
      simp only [cond_true,cond_false,e4,zky]
      exact ⟨_,_,rfl,by first | omega | (dsimp only; omega),d4⟩
  · obtain ⟨x,u4,e4,d4⟩:=yQs u3 d3
    simp only [cond_true,e4,zky]
    exact ⟨_,_,rfl,by first | omega | (dsimp only; omega),d4⟩
end
section
def yzN:Code:=(Tryz.f106.body).getD .skip
def yAe:Env:=zki TT [] []
theorem yE0:FrOk Tryz.prog ⟨yAe,15,fun _=>none⟩ yzN:=zkp ye yf trivial
def yG9:Nat→Option Seg:=fun _=>none
abbrev yi1:List Par:= [.rd tYs,.rd tI]
abbrev ynB:List OT:= [⟨false,tI,.fz⟩]
def yqq (a0:List Int) (a1:Int):Option (ResD ynB×MutD yi1) :=
  bif (ltb a1 (IntKind.i64.wrap (3+(IntKind.i64.wrap ((a0.length:Int).tdiv 12))))) then
    some ((a1,()),())
  else
    some (((IntKind.i64.wrap (3+(IntKind.i64.wrap ((a0.length:Int).tdiv 12)))),()),())
theorem yNg (x:InD yi1):zjH ⟨yAe,15,yG9⟩ Tryz.f106.results.toList yzN yi1 ynB x=yqq x.1 x.2.1:=by kernel_rfl
theorem yJs:ConOk Tryz.prog 106 ⟨yi1,ynB,fun x=>yqq x.1 x.2.1⟩:=zkh (yE0) Tryz.func106 (by kernel_rfl) (by kernel_rfl) Tryz.ntmps106.symm (by decide) (fun x r h=>(yNg x).trans h)
def yfp (a0:List Int) (a1:Int):Int :=
  bif (ltb a1 (IntKind.i64.wrap (3+(IntKind.i64.wrap ((a0.length:Int).tdiv 12))))) then
    a1
  else
    (IntKind.i64.wrap (3+(IntKind.i64.wrap ((a0.length:Int).tdiv 12))))
def ywX:Con:=⟨yi1,ynB,fun x=>(fun n=>some ((n,()),())) (yfp x.1 x.2.1)⟩
theorem yLi (a0:List Int) (a1:Int):yqq a0 a1=(fun n=>some ((n,()),())) (yfp a0 a1):=zkS (p:=fun (n:Int)=>((n,()),())) (zkx (p:=fun (n:Int)=>((n,()),())) rfl rfl)
theorem yMd:ConOk Tryz.prog 106 ywX:=(yJs).mono (fun x r _ h=>(yLi x.1 x.2.1).trans h)
theorem yQO (l:List Int) (n:Int) (hn:0≤n) (hl:l.length≤140737488355328):0≤yfp l n∧yfp l n≤n:=by
  unfold yfp
  have h1:0≤(l.length:Int).tdiv 12:=Int.tdiv_nonneg (by omega) (by omega)
  have h2:(l.length:Int).tdiv 12≤(l.length:Int):=by
    rw [Int.tdiv_eq_ediv_of_nonneg (by omega)]
    exact Int.ediv_le_self _ (by omega)
  rw [wr (show -9223372036854775808≤(l.length:Int).tdiv 12 by omega) (by omega),wr (show -9223372036854775808≤3+(l.length:Int).tdiv 12 by omega) (by omega)]
  by_cases h:n < 3+(l.length:Int).tdiv 12
  · rw [zjI h]; exact ⟨hn,Int.le_refl _⟩
  · rw [zkm (by omega),cond_false]; omega
end
section
def ytE:Code:=(Tryz.f59.body).getD .skip
def ytU:Env:=zki TT [(104,yyt),(105,yyx),(106,ywX),(109,ycU)] []
theorem yAA:FrOk Tryz.prog ⟨ytU,14,fun _=>none⟩ ytE:=zkp ye yf ⟨yN0,yN4,yMd,yfs,trivial⟩
def yA8:Nat→Option Seg:=fun _=>none
abbrev yek:List Par:= [.kp tYs .fz]
abbrev yh5:List OT:= [⟨false,tA,(.pr .fz (.pr (.pr .fz .fz) (.pr (.ow (.pr (.ow .fz) (.pr (.ow (.pr .fz .fz)) (.pr .fz (.ow .fz))))) (.pr .fz (.pr .fz (.pr .fz (.pr .fz (.pr .fz (.pr (.ow (.pr .fz .fz)) (.pr .fz (.pr .fz .fz)))))))))))⟩,⟨false,tI,.fz⟩]
def ybw (a0:List Int):Option (ResD yh5×MutD yek) :=
  let r1:=yhT a0
  let r2:=yfp a0 14
  bnd (yef r1 r2) fun r3 =>
  bnd (yy r3.2.1 ([0,0,1,2,(-1),8]:List Int)) fun r4 =>
  some ((r3.1.1,r4.1.1,()),())
theorem yEt (x:InD yek):zjH ⟨ytU,14,yA8⟩ Tryz.f59.results.toList ytE yek yh5 x=ybw x.1:=by kernel_rfl
theorem yB9:ConOk Tryz.prog 59 ⟨yek,yh5,fun x=>ybw x.1⟩:=zkh (yAA) Tryz.func59 (by kernel_rfl) (by kernel_rfl) Tryz.ntmps59.symm (by decide) (fun x r h=>(yEt x).trans h)
def yrI:Con:=⟨yek,yh5,fun x=>ybw x.1⟩
theorem yDJ:ConOk Tryz.prog 59 yrI:=yB9
theorem yOl (a0:List Int) (hb:a0.length≤140737488355328): ∃ (a:dA) (s:Int),ybw a0=some ((a,s,()),()):=by
  unfold ybw
  obtain ⟨h1,h2⟩:=yQO a0 14 (by omega) hb
  obtain ⟨a,u1,e1,_,d1⟩:=yQu _ _ (yQ7 a0 hb) h1 (by omega)
  obtain ⟨s,u2,e2,_,d2⟩:=yjb u1 [0,0,1,2,(-1),8] d1 (by simp)
  simp only [e1,e2,zky]
  exact ⟨a,s,rfl⟩
end
section
def yzB:Code:=(Tryz.f131.body).getD .skip
def yz2:Env:=zki TT [] []
theorem yEH:FrOk Tryz.prog ⟨yz2,15,fun _=>none⟩ yzB:=zkp ye yf trivial
def yGX:Nat→Option Seg:=fun _=>none
abbrev yiU:List Par:= [.rd tI,.rd tI,.rd tI]
abbrev ynn:List OT:= [⟨false,tB,.fz⟩]
def yqm (a0:Int) (a1:Int) (a2:Int):Option (ResD ynn×MutD yiU) :=
  bif (leb a1 a0) then
    some (((leb a0 a2),()),())
  else
    some ((false,()),())
theorem yM1 (x:InD yiU):zjH ⟨yz2,15,yGX⟩ Tryz.f131.results.toList yzB yiU ynn x=yqm x.1 x.2.1 x.2.2.1:=by kernel_rfl
theorem yJd:ConOk Tryz.prog 131 ⟨yiU,ynn,fun x=>yqm x.1 x.2.1 x.2.2.1⟩:=zkh (yEH) Tryz.func131 (by kernel_rfl) (by kernel_rfl) Tryz.ntmps131.symm (by decide) (fun x r h=>(yM1 x).trans h)
def yl (a0:Int) (a1:Int) (a2:Int):Bool :=
  bif (leb a1 a0) then
    (leb a0 a2)
  else
    false
def yK:Con:=⟨yiU,ynn,fun x=>(fun n=>some ((n,()),())) (yl x.1 x.2.1 x.2.2.1)⟩
theorem yK6 (a0:Int) (a1:Int) (a2:Int):yqm a0 a1 a2=(fun n=>some ((n,()),())) (yl a0 a1 a2):=zkS (p:=fun (n:Bool)=>((n,()),())) (zkx (p:=fun (n:Bool)=>((n,()),())) rfl rfl)
theorem yaa:ConOk Tryz.prog 131 yK:=(yJd).mono (fun x r _ h=>(yK6 x.1 x.2.1 x.2.2.1).trans h)
theorem yat (a b c:Int):yl a b c=yb a b c:=by kernel_rfl
end
section
def yAS:Code:=(Tryz.f175.body).getD .skip
def yA9:Env:=zki TT [(131,yK)] []
theorem yHR:FrOk Tryz.prog ⟨yA9,11,fun _=>none⟩ yAS:=zkp ye yf ⟨yaa,trivial⟩
def yKi:Nat→Option Seg:=fun _=>none
abbrev ykM:List Par:= [.rd tG]
abbrev ypu:List OT:= [⟨false,tB,.fz⟩]
def yrj (a0:dG):Option (ResD ypu×MutD ykM) :=
  let r1:=yl a0.1 3 5
  bif r1 then
    let r2:=yl a0.2 1 8
    some ((r2,()),())
  else
    some ((false,()),())
theorem yOn (x:InD ykM):zjH ⟨yA9,11,yKi⟩ Tryz.f175.results.toList yAS ykM ypu x=yrj x.1:=by kernel_rfl
theorem yLu:ConOk Tryz.prog 175 ⟨ykM,ypu,fun x=>yrj x.1⟩:=zkh (yHR) Tryz.func175 (by kernel_rfl) (by kernel_rfl) Tryz.ntmps175.symm (by decide) (fun x r h=>(yOn x).trans h)
def yhL (a0:dG):Bool :=
  let r1:=yl a0.1 3 5
  bif r1 then
    let r2:=yl a0.2 1 8
    r2
  else
    false
def yqX:Con:=⟨ykM,ypu,fun x=>(fun n=>some ((n,()),())) (yhL x.1)⟩
theorem yNw (a0:dG):yrj a0=(fun n=>some ((n,()),())) (yhL a0):=zkS (p:=fun (n:Bool)=>((n,()),())) (zkx (p:=fun (n:Bool)=>((n,()),())) rfl rfl)
theorem yAl:ConOk Tryz.prog 175 yqX:=(yLu).mono (fun x r _ h=>(yNw x.1).trans h)
theorem yIC (a:Int×Int):yhL a=yd a:=by kernel_rfl
end
end
end Go.Tf
