/- Functions of the program, and what they come to. -/
import Derived.Test.YtgmadfpnljibhaaGreatBuiltBentF11
namespace Go.Tf
noncomputable section
open Go.Proofs
set_option synthInstance.maxHeartbeats 400000
set_option synthInstance.maxSize 10000
set_option linter.unusedVariables false
set_option linter.unusedSimpArgs false
set_option maxRecDepth 100000
section
def yoR:Code:=(Tryz.f211.body).getD .skip
def yug:Env:=zki TT [(124,ygA),(150,yv),(212,ywU),(232,ys6),(266,yEk)] [(25088,(.pr .fz .fz)),(53440,(.pr .fz .fz)),(61440,.fz)]
theorem ySJ:FrOk Tryz.prog ⟨yug,62,fun _=>none⟩ yoR:=zkp yc yd ⟨ym9,yE,yId,yEC,yWL,trivial⟩
def yFv:Nat→Option Seg:=fun _=>none
def ybe:Shape:=⟨[(0,false,[.ptr 1000000000 0]),(2,false,[.ptr 0 0]),(3,false,[.ptr 4224 0])],[(0,[.nil,.nil,.bool,.nil]),(4224,[.at 800000000,.at 800000001,.bool,.at 800000002]),(1000000000,[.fz tY,.int .i64,.int .i64])],[(800000000,tL,.fz),(800000001,tW,(.pr .fz .fz)),(800000002,tI,.fz)]⟩
def yeV:Shape:=⟨[(0,false,[.ptr 1000000000 0]),(2,false,[.ptr 0 0]),(3,false,[.ptr 4224 0])],[(0,[.nil,.nil,.bool,.nil]),(4224,[.at 800000000,.at 800000001,.bool,.at 800000002]),(1000000000,[.fz tY,.int .i64,.int .i64])],[(800000000,tL,.fz),(800000001,tW,(.pr .fz .fz)),(800000002,tI,.fz)]⟩
def yeM:Shape:=⟨[(2,false,[.ptr 0 0]),(3,false,[.ptr 4224 0])],[(0,[.nil,.nil,.bool,.nil]),(4224,[.at 800000000,.at 800000001,.bool,.at 800000002]),(1000000000,[.fz tY,.int .i64,.int .i64])],[(800000000,tL,.fz),(800000001,tW,(.pr .fz .fz)),(800000002,tI,.fz)]⟩
def yjg:Shape:=⟨[],[],[]⟩
abbrev yhO (v0:dM) (v1:dM) (v2:dU):(ybe).X:=((((),()),((),()),((),()),()),(((),(),v0.2.2.1,(),()),((),(),v1.2.2.1,(),()),(v2.1,v2.2.1,v2.2.2,()),()),(v1.1,v1.2.1,v1.2.2.2,()))
abbrev yIM (v0:dM) (v1:dM) (v2:dU):(yeV).X:=((((),()),((),()),((),()),()),(((),(),v0.2.2.1,(),()),((),(),v1.2.2.1,(),()),(v2.1,v2.2.1,v2.2.2,()),()),(v1.1,v1.2.1,v1.2.2.2,()))
abbrev yIE (v0:dM) (v1:dM) (v2:dU):(yeM).X:=((((),()),((),()),()),(((),(),v0.2.2.1,(),()),((),(),v1.2.2.1,(),()),(v2.1,v2.2.1,v2.2.2,()),()),(v1.1,v1.2.1,v1.2.2.2,()))
def yhR (v0:Bool) (v1:Bool) (v2:List Int) (v3:Int) (v4:Int) (v5:List (List Int)) (v6:List dW) (v7:List Int):Option ((ybe).X ⊕ ((yeM).X ⊕ (yjg).X)) :=
  bnd (yb (v2,v3,v4) 3) fun r9 =>
  bif (ltb (v6.length:Int) (IntKind.i64.wrap (59+r9.1.1))) then
    bif (zj4 v6.length ([(0,[])]:List dW).length 32) then
      some (.inl ((((),()),((),()),((),()),()),(((),(),v0,(),()),((),(),v1,(),()),(r9.2.1.1,r9.2.1.2.1,r9.2.1.2.2,()),()),(v5,(v6++([(0,[])]:List dW)),v7,())))
    else none
  else
    some (.inr (.inl ((((),()),((),()),()),(((),(),v0,(),()),((),(),v1,(),()),(r9.2.1.1,r9.2.1.2.1,r9.2.1.2.2,()),()),(v5,v6,v7,()))))
def yaz (x:(ybe).X):=yhR x.2.1.1.2.2.1 x.2.1.2.1.2.2.1 x.2.1.2.2.1.1 x.2.1.2.2.1.2.1 x.2.1.2.2.1.2.2.1 x.2.2.1 x.2.2.2.1 x.2.2.2.2.1
def ywh (x:(yeV).X):(ybe).X:=((((),()),((),()),((),()),()),(((),(),x.2.1.1.2.2.1,(),()),((),(),x.2.1.2.1.2.2.1,(),()),(x.2.1.2.2.1.1,x.2.1.2.2.1.2.1,x.2.1.2.2.1.2.2.1,()),()),(x.2.2.1,x.2.2.2.1,x.2.2.2.2.1,()))
def yxP:Code:=(zdI yoR 64 241656).getD .skip
theorem yJU:zdI yoR 64 60414=some (.block 1 (.loop yxP)):=by kernel_rfl
theorem yLp (x:(ybe).X):zg7 ⟨yug,62,yFv⟩ 1 yxP 241656 ybe yeM yjg x=yaz x:=by kernel_rfl
def ywr (x:(yeV).X):Nat:=(fun (u0:Bool) (u1:Bool) (u2:List Int) (u3:Int) (u4:Int) (u5:List (List Int)) (u6:List dW) (u7:List Int)=>18446744073709551616) x.2.1.1.2.2.1 x.2.1.2.1.2.2.1 x.2.1.2.2.1.1 x.2.1.2.2.1.2.1 x.2.1.2.2.1.2.2.1 x.2.2.1 x.2.2.2.1 x.2.2.2.2.1
def yo6 (x:(yeV).X):Option ((yeM).X ⊕ (yjg).X):=zr yaz (ywr x) (ywh x)
def ywG:Seg:=⟨yeV,yeM,yjg,yo6⟩
def yFw:Nat→Option Seg:=fun q=>bif Nat.beq q 60414 then some ywG else yFv q
theorem ySK:FrOk Tryz.prog ⟨yug,62,yFw⟩ yoR:=(ySJ).loop (sg:=ywG) ybe ywh (by decide) yJU yaz ywr (by decide) (fun _=>rfl) (fun x r _ h=>h) yLp
abbrev ypf:List Par:= [.pt tU .fz]
abbrev yuV:List OT:= [⟨false,tM,(.pr (.ow .fz) (.pr (.ow (.pr .fz .fz)) (.pr .fz (.ow .fz))))⟩]
def ygI (a0:dU):Option (ResD yuV×MutD ypf) :=
  bnd (yft a0) fun r1 =>
  bnd (yb r1.2.1 14) fun r2 =>
  bif (r2.1.1==0) then
    bnd (ycI r2.2.1) fun r3 =>
    bif (inb 0 r1.1.1.1.length) then
      some ((((r1.1.1.1.set (0:Int).toNat r3.1.1),r1.1.1.2),()),(r3.2.1,()))
    else none
  else
    bif (r2.1.1==1) then
      bnd (yB r2.2.1 ([(-1),0,9]:List Int)) fun r4 =>
      bnd (ycI r4.2.1) fun r5 =>
      bif (zj4 r1.1.1.2.1.length ([(r4.1.1,r5.1.1)]:List dW).length 32) then
        some (((r1.1.1.1,(r1.1.1.2.1++([(r4.1.1,r5.1.1)]:List dW)),r1.1.1.2.2),()),(r5.2.1,()))
      else none
    else
      bif (r2.1.1==2) then
        bnd (yB r2.2.1 ([(-1),0,9]:List Int)) fun r6 =>
        bif (zj4 r1.1.1.2.2.2.length ([r6.1.1]:List Int).length 8) then
          some (((r1.1.1.1,r1.1.1.2.1,r1.1.1.2.2.1,(r1.1.1.2.2.2++([r6.1.1]:List Int))),()),(r6.2.1,()))
        else none
      else
        bif (r2.1.1==3) then
          let r7:=yle r1.1.1
          some ((r7,()),(r2.2.1,()))
        else
          bif (r2.1.1==4) then
            zjw (yo6 ((((),()),((),()),((),()),()),(((),(),false,(),()),((),(),r1.1.1.2.2.1,(),()),(r2.2.1.1,r2.2.1.2.1,r2.2.1.2.2,()),()),(r1.1.1.1,r1.1.1.2.1,r1.1.1.2.2.2,()))) (fun y9 =>
              some (((y9.2.2.1,y9.2.2.2.1,y9.2.1.2.1.2.2.1,y9.2.2.2.2.1),()),((y9.2.1.2.2.1.1,y9.2.1.2.2.1.2.1,y9.2.1.2.2.1.2.2.1),()))) (fun y9 =>
              none)
          else
            bif (r2.1.1==5) then
              some (((([]:List (List Int)),r1.1.1.2),()),(r2.2.1,()))
            else
              some ((r1.1.1,()),(r2.2.1,()))
theorem yZn (x:InD ypf):zjH ⟨yug,62,yFw⟩ Tryz.f211.results.toList yoR ypf yuV x=ygI x.1:=by kernel_rfl
theorem yWo:ConOk Tryz.prog 211 ⟨ypf,yuV,fun x=>ygI x.1⟩:=zkh (ySK) Tryz.func211 (by kernel_rfl) (by kernel_rfl) Tryz.ntmps211.symm (by decide) (fun x r h=>(yZn x).trans h)
def yF1:Con:=⟨ypf,yuV,fun x=>ygI x.1⟩
theorem yYH:ConOk Tryz.prog 211 yF1:=yWo
theorem yXa: ∀ (n:Nat) (m:dM) (u:dU) (fuel:Nat),n < fuel→yG u→m.2.1.length+n=62∨(n=0∧61≤m.2.1.length∧m.2.1.length≤100) →
    ∃ (m':dM) (u':dU),zr yaz fuel (yhO ye m u)=some (.inl (yIE ye m' u'))∧yG u'∧m'.1=m.1∧m'.2.1.length≤100
  | 0,m,u,fuel+1,_,hu,hn=>by
    obtain ⟨r,u1,e1,q1,d1⟩:=yw u 3 hu
    have:=q1.1; have:=q1.2.1 (by omega)
    refine ⟨m,u1,?_,d1,rfl,by omega⟩
    rw [zr]
    simp only [yaz,yhO,yhR,zkV,e1,zky,wr (show -9223372036854775808≤59+r by omega) (by omega),zkm (show 59+r≤(m.2.1.length:Int) by omega),cond_false]
  | n+1,m,u,fuel+1,hf,hu,hn=>by
    obtain ⟨r,u1,e1,q1,d1⟩:=yw u 3 hu
    have:=q1.1; have:=q1.2.1 (by omega)
    by_cases hlt:(m.2.1.length:Int) < 59+r
    · obtain ⟨m',u',e2,d2,l2⟩:=yXa n (m.1,m.2.1++ [(0,[])],m.2.2) u1 fuel (by omega) d1 (.inl (by
        show (m.2.1++ [((0:Int),([]:List Int))]).length+n=62
        rw [List.length_append]; simp only [List.length_cons,List.length_nil]; omega))
      refine ⟨m',u',?_,d2,l2⟩
      rw [← e2,zr]
      simp only [yaz,yhO,yhR,zkV,e1,zky,wr (show -9223372036854775808≤59+r by omega) (by omega),zjI hlt,cond_true,zkw.2 (show (m.2.1.length+ [((0:Int),([]:List Int))].length) * 32≤140737488355328 by simp only [List.length_cons,List.length_nil]; omega)]
    · refine ⟨m,u1,?_,d1,rfl,by omega⟩
      rw [zr]
      simp only [yaz,yhO,yhR,zkV,e1,zky,wr (show -9223372036854775808≤59+r by omega) (by omega),zkm (show 59+r≤(m.2.1.length:Int) by omega),cond_false]
theorem y1r (u:dU) (h:yG u): ∃ (m:dM) (u':dU),ygI u=some ((m,()),(u',()))∧(m.1.length≤100∧m.2.1.length≤100)∧yG u':=by
  unfold ygI
  obtain ⟨m,u1,e1,q1,d1⟩:=y0W u h
  obtain ⟨r,u2,e2,_,d2⟩:=yw u1 14 d1
  obtain ⟨h1,h2,h3,h4,h5,h6⟩:=yao q1
  rw [ylq]at h3
  have hlen:=yFU h3.2 (lo:=0) (n:=m.1.length) h3.1 (by omega)
  simp only [e1,e2,zky]
  cases (r==0)
  · cases (r==1)
    · cases (r==2)
      · cases (r==3)
        · cases (r==4)
          · cases (r==5)
            · exact ⟨_,_,rfl,by omega,d2⟩
            · exact ⟨_,_,rfl,⟨Nat.zero_le _,by show m.2.1.length≤100; omega⟩,d2⟩
          · obtain ⟨m',u',e3,d3,l3,l4⟩:=yXa (62 - m.2.1.length) m u2 18446744073709551616 (by omega) d2 (.inl (by omega))
            simp only [cond_true,cond_false]
            refine ⟨m',u',?_,⟨by rw [l3]; omega,l4⟩,d3⟩
            exact (congrArg (fun z=>zjw z _ _) (show yo6 (yIM ye m u2)=_ from e3)).trans rfl
        · exact ⟨_,_,rfl,⟨by show m.1.length≤100; omega,Nat.zero_le _⟩,d2⟩
      · obtain ⟨x,u3,e3,_,d3⟩:=ypx u2 [(-1),0,9] d2 (by simp)
        simp only [cond_true,cond_false,e3,zky]
        rw [zkw.2 (show (m.2.2.2.length+ [x].length) * 8≤140737488355328 by simp only [List.length_cons,List.length_nil]; omega)]
        exact ⟨_,_,rfl,⟨by show m.1.length≤100; omega,by show m.2.1.length≤100; omega⟩,d3⟩
    · obtain ⟨x,u3,e3,_,d3⟩:=ypx u2 [(-1),0,9] d2 (by simp)
      obtain ⟨l,u4,e4,_,d4⟩:=yOk u3 d3
      simp only [cond_true,cond_false,e3,zky,e4]
      rw [zkw.2 (show (m.2.1.length+ [(x,l)].length) * 32≤140737488355328 by simp only [List.length_cons,List.length_nil]; omega)]
      exact ⟨_,_,rfl,⟨by show m.1.length≤100; omega,by show (m.2.1++ [(x,l)]).length≤100; rw [List.length_append]; simp only [List.length_cons,List.length_nil]; omega⟩,d4⟩
  · obtain ⟨l,u3,e3,_,d3⟩:=yOk u2 d2
    simp only [cond_true,e3,zky]
    rw [show inb 0 m.1.length=true from zkO (i:=0) (by omega)]
    exact ⟨_,_,rfl,⟨by show (m.1.set _ _).length≤100; rw [List.length_set]; omega,by show m.2.1.length≤100; omega⟩,d3⟩
end
section
def yJh:Code:=(Tryz.f114.body).getD .skip
def yJG:Env:=zki TT [(113,yEm),(124,ygA),(125,yF2),(141,ydi),(150,yv),(211,yF1),(212,ywU),(213,yqy)] [(61952,(.pr .fz .fz))]
theorem ySP:FrOk Tryz.prog ⟨yJG,92,fun _=>none⟩ yJh:=zkp yc yd ⟨yWN,ym9,yYI,ygG,yE,yYH,yId,yyW,trivial⟩
def yUW:Nat→Option Seg:=fun _=>none
abbrev ypi:List Par:= [.pt tU .fz,.rd tI]
abbrev yuZ:List OT:= [⟨false,tA,(.pr .fz (.pr (.pr .fz .fz) (.pr (.ow (.pr (.ow .fz) (.pr (.ow (.pr .fz .fz)) (.pr .fz (.ow .fz))))) (.pr .fz (.pr .fz (.pr .fz (.pr .fz (.pr .fz (.pr (.ow (.pr .fz .fz)) (.pr .fz (.pr .fz .fz)))))))))))⟩]
def ygL (a0:dU) (a1:Int):Option (ResD yuZ×MutD ypi) :=
  bnd (yfu a0 a1) fun r1 =>
  bnd (yb r1.2.1 (r1.1.1.2.2.1.length:Int)) fun r2 =>
  bnd (yb r2.2.1 20) fun r3 =>
  bif (r3.1.1==0) then
    bnd (ygI r3.2.1) fun r4 =>
    bif (inb r2.1.1 r1.1.1.2.2.1.length) then
      some (((r1.1.1.1,r1.1.1.2.1,(r1.1.1.2.2.1.set (r2.1.1).toNat r4.1.1),r1.1.1.2.2.2),()),(r4.2.1,()))
    else none
  else
    bif (r3.1.1==1) then
      bnd (yB r3.2.1 ([(-2),(-1),0,5]:List Int)) fun r5 =>
      some (((r1.1.1.1,r1.1.1.2.1,r1.1.1.2.2.1,r5.1.1,r1.1.1.2.2.2.2),()),(r5.2.1,()))
    else
      bif (r3.1.1==2) then
        bnd (yB r3.2.1 ([(-1),1,9]:List Int)) fun r6 =>
        some (((r1.1.1.1,r1.1.1.2.1,r1.1.1.2.2.1,r1.1.1.2.2.2.1,r6.1.1,r1.1.1.2.2.2.2.2),()),(r6.2.1,()))
      else
        bif (r3.1.1==3) then
          bnd (yB r3.2.1 ([(-1),0,9,60000]:List Int)) fun r7 =>
          some (((r1.1.1.1,r1.1.1.2.1,r1.1.1.2.2.1,r1.1.1.2.2.2.1,r1.1.1.2.2.2.2.1,r7.1.1,r1.1.1.2.2.2.2.2.2),()),(r7.2.1,()))
        else
          bif (r3.1.1==4) then
            bnd (yB r3.2.1 ([(-1),60000,59990,60001]:List Int)) fun r8 =>
            some (((r1.1.1.1,r1.1.1.2.1,r1.1.1.2.2.1,r1.1.1.2.2.2.1,r1.1.1.2.2.2.2.1,r1.1.1.2.2.2.2.2.1,r1.1.1.2.2.2.2.2.2.1,r8.1.1,r1.1.1.2.2.2.2.2.2.2.2),()),(r8.2.1,()))
          else
            bif (r3.1.1==5) then
              bnd (yb r3.2.1 5) fun r9 =>
              bnd (ycI r9.2.1) fun r10 =>
              bif (zj4 r1.1.1.2.2.2.2.2.2.2.2.1.length ([((IntKind.i64.wrap (r9.1.1 - 1)),r10.1.1)]:List dW).length 32) then
                some (((r1.1.1.1,r1.1.1.2.1,r1.1.1.2.2.1,r1.1.1.2.2.2.1,r1.1.1.2.2.2.2.1,r1.1.1.2.2.2.2.2.1,r1.1.1.2.2.2.2.2.2.1,r1.1.1.2.2.2.2.2.2.2.1,(r1.1.1.2.2.2.2.2.2.2.2.1++([((IntKind.i64.wrap (r9.1.1 - 1)),r10.1.1)]:List dW)),r1.1.1.2.2.2.2.2.2.2.2.2),()),(r10.2.1,()))
              else none
            else
              bif (r3.1.1==6) then
                some (((r1.1.1.1,r1.1.1.2.1,r1.1.1.2.2.1,r1.1.1.2.2.2.1,r1.1.1.2.2.2.2.1,r1.1.1.2.2.2.2.2.1,r1.1.1.2.2.2.2.2.2.1,r1.1.1.2.2.2.2.2.2.2.1,r1.1.1.2.2.2.2.2.2.2.2.1,r1.1.1.2.2.2.2.2.2.2.2.2.1,r1.1.1.2.2.2.2.2.2.2.2.2.2.1,true),()),(r3.2.1,()))
              else
                bif (r3.1.1==7) then
                  bnd (yB r3.2.1 ([(-2),0,1,2,5,1001]:List Int)) fun r11 =>
                  some (((r1.1.1.1,r1.1.1.2.1,r1.1.1.2.2.1,r1.1.1.2.2.2.1,r1.1.1.2.2.2.2.1,r1.1.1.2.2.2.2.2.1,r1.1.1.2.2.2.2.2.2.1,r1.1.1.2.2.2.2.2.2.2.1,r1.1.1.2.2.2.2.2.2.2.2.1,r11.1.1,r1.1.1.2.2.2.2.2.2.2.2.2.2),()),(r11.2.1,()))
                else
                  bif (r3.1.1==8) then
                    some (((r1.1.1.1,r1.1.1.2.1,r1.1.1.2.2.1,r1.1.1.2.2.2.1,r1.1.1.2.2.2.2.1,r1.1.1.2.2.2.2.2.1,r1.1.1.2.2.2.2.2.2.1,r1.1.1.2.2.2.2.2.2.2.1,r1.1.1.2.2.2.2.2.2.2.2.1,r1.1.1.2.2.2.2.2.2.2.2.2.1,true,r1.1.1.2.2.2.2.2.2.2.2.2.2.2),()),(r3.2.1,()))
                  else
                    bif (r3.1.1==9) then
                      bif (inb r2.1.1 r1.1.1.2.2.1.length) then
                        let r12:=yaC 0
                        bnd (ycJ r3.2.1) fun r13 =>
                        bif (inb r12 ((nth r1.1.1.2.2.1 r2.1.1 ([],[],false,[])).1).length) then
                          let r14:=(r1.1.1.2.2.1.set (r2.1.1).toNat ((((nth r1.1.1.2.2.1 r2.1.1 ([],[],false,[])).1).set (r12).toNat r13.1.1),((nth r1.1.1.2.2.1 r2.1.1 ([],[],false,[])).2).1,(((nth r1.1.1.2.2.1 r2.1.1 ([],[],false,[])).2).2).1,(((nth r1.1.1.2.2.1 r2.1.1 ([],[],false,[])).2).2).2))
                          some (((r1.1.1.1,r1.1.1.2.1,r14,r1.1.1.2.2.2),()),(r13.2.1,()))
                        else none
                      else none
                    else
                      bif (r3.1.1==10) then
                        bnd (ygJ r3.2.1) fun r15 =>
                        some (((r1.1.1.1,r15.1.1,r1.1.1.2.2),()),(r15.2.1,()))
                      else
                        some ((r1.1.1,()),(r3.2.1,()))
theorem yZr (x:InD ypi):zjH ⟨yJG,92,yUW⟩ Tryz.f114.results.toList yJh ypi yuZ x=ygL x.1 x.2.1:=by kernel_rfl
theorem yWs:ConOk Tryz.prog 114 ⟨ypi,yuZ,fun x=>ygL x.1 x.2.1⟩:=zkh (ySP) Tryz.func114 (by kernel_rfl) (by kernel_rfl) Tryz.ntmps114.symm (by decide) (fun x r h=>(yZr x).trans h)
def yF4:Con:=⟨ypi,yuZ,fun x=>ygL x.1 x.2.1⟩
theorem yYK:ConOk Tryz.prog 114 yF4:=yWs
theorem y1t (u:dU) (most:Int) (h:yG u) (h0:0≤most) (h1:most≤1000): ∃ (a:dA) (u':dU),ygL u most=some ((a,()),(u',()))∧yb2 a∧yG u':=by
  unfold ygL
  obtain ⟨a,u1,e1,q1,d1⟩:=y0X u most h h0 h1
  have hg:=yk.1 q1.1.1
  have hl:=q1.2.1.1.2
  have hd:=yxV q1.1.2.2.1 q1.1.1
  have hA:yb2 a:=ytc (yw0 (yZX q1)) (by omega)
  have hL: ∀ b:dA,b.2.2.1=a.2.2.1→b.2.2.2.2.2.2.2.2.1=a.2.2.2.2.2.2.2.2.1→yb2 b:=fun b e1 e2=>by unfold yb2; rw [e1,e2]; exact hA
  have hS: ∀ (m:dM) (k:Nat),m.1.length≤1000000000→m.2.1.length≤1000000000→yb2 (a.1,a.2.1,a.2.2.1.set k m,a.2.2.2):=fun m k g1 g2=>⟨by show (a.2.2.1.set k m).length≤_; rw [List.length_set]; exact hA.1,fun x hx=>by
    rcases List.mem_or_eq_of_mem_set hx with h1 | rfl
    · exact hA.2.1 x h1
    · exact ⟨g1,g2⟩,hA.2.2⟩
  obtain ⟨m,u2,e2,q2,d2⟩:=yw u1 (a.2.2.1.length:Int) d1
  obtain ⟨r,u3,e3,_,d3⟩:=yw u2 20 d2
  have hm:inb m a.2.2.1.length=true:=zjP.2 ⟨q2.1,q2.2.1 (by omega)⟩
  simp only [e1,e2,e3,zky,hm]
  cases (r==0)
  · cases (r==1)
    · cases (r==2)
      · cases (r==3)
        · cases (r==4)
          · cases (r==5)
            · cases (r==6)
              · cases (r==7)
                · cases (r==8)
                  · cases (r==9)
                    · cases (r==10)
                      · exact ⟨_,_,rfl,hL _ rfl rfl,d3⟩
                      · obtain ⟨g,u4,e4,d4⟩:=y1s u3 d3
                        simp only [cond_true,cond_false,e4,zky]
                        exact ⟨_,_,rfl,hL _ rfl rfl,d4⟩
                    · obtain ⟨l,u4,e4,_,d4⟩:=yOl u3 d3
                      have hmi:=zjP.1 hm
                      have hs:=(q1.2.1.1.1 m.toNat (by omega)).2.1
                      rw [Int.toNat_of_nonneg hmi.1]at hs
                      simp only [cond_true,cond_false,e4,zky,yet]
                      rw [show ycA 0=6 from rfl,zjP.2 (show (0:Int)≤6∧(6:Int) < ((nth a.2.2.1 m ye).1.length:Int) by omega)]
                      have hnm:=yw2 (P:=fun x:dM=>x.1.length≤1000000000∧x.2.1.length≤1000000000) (d:=ye) hm hA.2.1
                      exact ⟨_,_,rfl,hS _ _ (by show ((nth a.2.2.1 m ye).1.set _ _).length≤_; rw [List.length_set]; exact hnm.1) hnm.2,d4⟩
                  · exact ⟨_,_,rfl,hL _ rfl rfl,d3⟩
                · obtain ⟨x,u4,e4,_,d4⟩:=ypx u3 [(-2),0,1,2,5,1001] d3 (by simp)
                  simp only [cond_true,cond_false,e4,zky]
                  exact ⟨_,_,rfl,hL _ rfl rfl,d4⟩
              · exact ⟨_,_,rfl,hL _ rfl rfl,d3⟩
            · obtain ⟨x,u4,e4,_,d4⟩:=yw u3 5 d3
              obtain ⟨l,u5,e5,_,d5⟩:=yOk u4 d4
              simp only [cond_true,cond_false,e4,zky,e5]
              rw [zkw.2 (show (a.2.2.2.2.2.2.2.2.1.length+ [(IntKind.i64.wrap (x - 1),l)].length) * 32≤140737488355328 by simp only [List.length_cons,List.length_nil]; omega)]
              exact ⟨_,_,rfl,⟨hA.1,hA.2.1,by show (a.2.2.2.2.2.2.2.2.1++ [(IntKind.i64.wrap (x - 1),l)]).length≤1000000000; rw [List.length_append]; simp only [List.length_cons,List.length_nil]; omega⟩,d5⟩
          · obtain ⟨x,u4,e4,_,d4⟩:=ypx u3 [(-1),60000,59990,60001] d3 (by simp)
            simp only [cond_true,cond_false,e4,zky]
            exact ⟨_,_,rfl,hL _ rfl rfl,d4⟩
        · obtain ⟨x,u4,e4,_,d4⟩:=ypx u3 [(-1),0,9,60000] d3 (by simp)
          simp only [cond_true,cond_false,e4,zky]
          exact ⟨_,_,rfl,hL _ rfl rfl,d4⟩
      · obtain ⟨x,u4,e4,_,d4⟩:=ypx u3 [(-1),1,9] d3 (by simp)
        simp only [cond_true,cond_false,e4,zky]
        exact ⟨_,_,rfl,hL _ rfl rfl,d4⟩
    · obtain ⟨x,u4,e4,_,d4⟩:=ypx u3 [(-2),(-1),0,5] d3 (by simp)
      simp only [cond_true,cond_false,e4,zky]
      exact ⟨_,_,rfl,hL _ rfl rfl,d4⟩
  · obtain ⟨x,u4,e4,q4,d4⟩:=y1r u3 d3
    simp only [cond_true,e4,zky]
    exact ⟨_,_,rfl,hS _ _ (by omega) (by omega),d4⟩
end
section
def yko:Code:=(Tryz.f95.body).getD .skip
def yqc:Env:=zki TT [(46,yk7),(105,yjZ),(109,yht),(110,yjj),(114,yF4),(150,yv),(199,ys7)] []
theorem yMo:FrOk Tryz.prog ⟨yqc,75,fun _=>none⟩ yko:=zkp yc yd ⟨ysN,ytt,yor,yqG,yYK,yE,yED,trivial⟩
def yBc:Nat→Option Seg:=fun _=>none
def yaO:Shape:=⟨[(4,false,[.ptr 0 0]),(5,false,[.ptr 4288 0]),(7,false,[.int .i64])],[(0,[.int .i64,.int .i64,.int .i64,.nil,.int .i64,.int .i64,.int .i64,.int .i64,.int .i64,.nil,.int .i64,.bool,.bool]),(4288,[.int .i64,.int .i64,.int .i64,.at 800000000,.int .i64,.int .i64,.int .i64,.int .i64,.int .i64,.at 800000001,.int .i64,.bool,.bool]),(1000000000,[.fz tY,.int .i64,.int .i64])],[(800000000,tM,(.pr (.ow .fz) (.pr (.ow (.pr .fz .fz)) (.pr .fz (.ow .fz))))),(800000001,tW,(.pr .fz .fz))]⟩
def yd7:Shape:=⟨[(4,false,[.ptr 0 0]),(5,false,[.ptr 4288 0]),(7,false,[.int .i64])],[(0,[.int .i64,.int .i64,.int .i64,.nil,.int .i64,.int .i64,.int .i64,.int .i64,.int .i64,.nil,.int .i64,.bool,.bool]),(4288,[.int .i64,.int .i64,.int .i64,.at 800000000,.int .i64,.int .i64,.int .i64,.int .i64,.int .i64,.at 800000001,.int .i64,.bool,.bool]),(1000000000,[.fz tY,.int .i64,.int .i64])],[(800000000,tM,(.pr (.ow .fz) (.pr (.ow (.pr .fz .fz)) (.pr .fz (.ow .fz))))),(800000001,tW,(.pr .fz .fz))]⟩
def yd2:Shape:=⟨[(4,false,[.ptr 0 0]),(5,false,[.ptr 4288 0])],[(0,[.int .i64,.int .i64,.int .i64,.nil,.int .i64,.int .i64,.int .i64,.int .i64,.int .i64,.nil,.int .i64,.bool,.bool]),(4288,[.int .i64,.int .i64,.int .i64,.at 800000000,.int .i64,.int .i64,.int .i64,.int .i64,.int .i64,.at 800000001,.int .i64,.bool,.bool]),(1000000000,[.fz tY,.int .i64,.int .i64])],[(800000000,tM,(.pr (.ow .fz) (.pr (.ow (.pr .fz .fz)) (.pr .fz (.ow .fz))))),(800000001,tW,(.pr .fz .fz))]⟩
def yhK:Shape:=⟨[],[],[]⟩
abbrev ygi (v0:Int) (v1:dA) (v2:dA) (v3:dU):(yaO).X:=((((),()),((),()),(v0,()),()),((v1.1,v1.2.1.1,v1.2.1.2,(),v1.2.2.2.1,v1.2.2.2.2.1,v1.2.2.2.2.2.1,v1.2.2.2.2.2.2.1,v1.2.2.2.2.2.2.2.1,(),v1.2.2.2.2.2.2.2.2.2.1,v1.2.2.2.2.2.2.2.2.2.2.1,v1.2.2.2.2.2.2.2.2.2.2.2,()),(v2.1,v2.2.1.1,v2.2.1.2,(),v2.2.2.2.1,v2.2.2.2.2.1,v2.2.2.2.2.2.1,v2.2.2.2.2.2.2.1,v2.2.2.2.2.2.2.2.1,(),v2.2.2.2.2.2.2.2.2.2.1,v2.2.2.2.2.2.2.2.2.2.2.1,v2.2.2.2.2.2.2.2.2.2.2.2,()),(v3.1,v3.2.1,v3.2.2,()),()),(v2.2.2.1,v2.2.2.2.2.2.2.2.2.1,()))
abbrev yGY (v0:Int) (v1:dA) (v2:dA) (v3:dU):(yd7).X:=((((),()),((),()),(v0,()),()),((v1.1,v1.2.1.1,v1.2.1.2,(),v1.2.2.2.1,v1.2.2.2.2.1,v1.2.2.2.2.2.1,v1.2.2.2.2.2.2.1,v1.2.2.2.2.2.2.2.1,(),v1.2.2.2.2.2.2.2.2.2.1,v1.2.2.2.2.2.2.2.2.2.2.1,v1.2.2.2.2.2.2.2.2.2.2.2,()),(v2.1,v2.2.1.1,v2.2.1.2,(),v2.2.2.2.1,v2.2.2.2.2.1,v2.2.2.2.2.2.1,v2.2.2.2.2.2.2.1,v2.2.2.2.2.2.2.2.1,(),v2.2.2.2.2.2.2.2.2.2.1,v2.2.2.2.2.2.2.2.2.2.2.1,v2.2.2.2.2.2.2.2.2.2.2.2,()),(v3.1,v3.2.1,v3.2.2,()),()),(v2.2.2.1,v2.2.2.2.2.2.2.2.2.1,()))
abbrev yGT (v0:dA) (v1:dA) (v2:dU):(yd2).X:=((((),()),((),()),()),((v0.1,v0.2.1.1,v0.2.1.2,(),v0.2.2.2.1,v0.2.2.2.2.1,v0.2.2.2.2.2.1,v0.2.2.2.2.2.2.1,v0.2.2.2.2.2.2.2.1,(),v0.2.2.2.2.2.2.2.2.2.1,v0.2.2.2.2.2.2.2.2.2.2.1,v0.2.2.2.2.2.2.2.2.2.2.2,()),(v1.1,v1.2.1.1,v1.2.1.2,(),v1.2.2.2.1,v1.2.2.2.2.1,v1.2.2.2.2.2.1,v1.2.2.2.2.2.2.1,v1.2.2.2.2.2.2.2.1,(),v1.2.2.2.2.2.2.2.2.2.1,v1.2.2.2.2.2.2.2.2.2.2.1,v1.2.2.2.2.2.2.2.2.2.2.2,()),(v2.1,v2.2.1,v2.2.2,()),()),(v1.2.2.1,v1.2.2.2.2.2.2.2.2.1,()))
def ygn (v0:Int) (v1:Int) (v2:Int) (v3:Int) (v4:Int) (v5:Int) (v6:Int) (v7:Int) (v8:Int) (v9:Int) (v10:Bool) (v11:Bool) (v12:Int) (v13:Int) (v14:Int) (v15:Int) (v16:Int) (v17:Int) (v18:Int) (v19:Int) (v20:Int) (v21:Bool) (v22:Bool) (v23:List Int) (v24:Int) (v25:Int) (v26:List dM) (v27:List dW):Option ((yaO).X ⊕ ((yd2).X ⊕ (yhK).X)) :=
  bif (ltb 0 v0) then
    bif (!v21) then
      bif (ltb v16 v14) then
        bnd (ycD (v12,(v13,v14),v26,v15,v16,v17,v18,v19,v27,v20,v21,v22)) fun r10 =>
        some (.inl ((((),()),((),()),((IntKind.i64.wrap (v0 - 1)),()),()),((v1,v2,v3,(),v4,v5,v6,v7,v8,(),v9,v10,v11,()),(r10.2.1.1,r10.2.1.2.1.1,r10.2.1.2.1.2,(),r10.2.1.2.2.2.1,r10.2.1.2.2.2.2.1,r10.2.1.2.2.2.2.2.1,r10.2.1.2.2.2.2.2.2.1,r10.2.1.2.2.2.2.2.2.2.1,(),r10.2.1.2.2.2.2.2.2.2.2.2.1,r10.2.1.2.2.2.2.2.2.2.2.2.2.1,r10.2.1.2.2.2.2.2.2.2.2.2.2.2,()),(v23,v24,v25,()),()),(r10.2.1.2.2.1,r10.2.1.2.2.2.2.2.2.2.2.1,())))
      else
        some (.inr (.inl ((((),()),((),()),()),((v1,v2,v3,(),v4,v5,v6,v7,v8,(),v9,v10,v11,()),(v12,v13,v14,(),v15,v16,v17,v18,v19,(),v20,v21,v22,()),(v23,v24,v25,()),()),(v26,v27,()))))
    else
      some (.inr (.inl ((((),()),((),()),()),((v1,v2,v3,(),v4,v5,v6,v7,v8,(),v9,v10,v11,()),(v12,v13,v14,(),v15,v16,v17,v18,v19,(),v20,v21,v22,()),(v23,v24,v25,()),()),(v26,v27,()))))
  else
    some (.inr (.inl ((((),()),((),()),()),((v1,v2,v3,(),v4,v5,v6,v7,v8,(),v9,v10,v11,()),(v12,v13,v14,(),v15,v16,v17,v18,v19,(),v20,v21,v22,()),(v23,v24,v25,()),()),(v26,v27,()))))
def yan (x:(yaO).X):=ygn x.1.2.2.1.1 x.2.1.1.1 x.2.1.1.2.1 x.2.1.1.2.2.1 x.2.1.1.2.2.2.2.1 x.2.1.1.2.2.2.2.2.1 x.2.1.1.2.2.2.2.2.2.1 x.2.1.1.2.2.2.2.2.2.2.1 x.2.1.1.2.2.2.2.2.2.2.2.1 x.2.1.1.2.2.2.2.2.2.2.2.2.2.1 x.2.1.1.2.2.2.2.2.2.2.2.2.2.2.1 x.2.1.1.2.2.2.2.2.2.2.2.2.2.2.2.1 x.2.1.2.1.1 x.2.1.2.1.2.1 x.2.1.2.1.2.2.1 x.2.1.2.1.2.2.2.2.1 x.2.1.2.1.2.2.2.2.2.1 x.2.1.2.1.2.2.2.2.2.2.1 x.2.1.2.1.2.2.2.2.2.2.2.1 x.2.1.2.1.2.2.2.2.2.2.2.2.1 x.2.1.2.1.2.2.2.2.2.2.2.2.2.2.1 x.2.1.2.1.2.2.2.2.2.2.2.2.2.2.2.1 x.2.1.2.1.2.2.2.2.2.2.2.2.2.2.2.2.1 x.2.1.2.2.1.1 x.2.1.2.2.1.2.1 x.2.1.2.2.1.2.2.1 x.2.2.1 x.2.2.2.1
def yvi (x:(yd7).X):(yaO).X:=((((),()),((),()),(x.1.2.2.1.1,()),()),((x.2.1.1.1,x.2.1.1.2.1,x.2.1.1.2.2.1,(),x.2.1.1.2.2.2.2.1,x.2.1.1.2.2.2.2.2.1,x.2.1.1.2.2.2.2.2.2.1,x.2.1.1.2.2.2.2.2.2.2.1,x.2.1.1.2.2.2.2.2.2.2.2.1,(),x.2.1.1.2.2.2.2.2.2.2.2.2.2.1,x.2.1.1.2.2.2.2.2.2.2.2.2.2.2.1,x.2.1.1.2.2.2.2.2.2.2.2.2.2.2.2.1,()),(x.2.1.2.1.1,x.2.1.2.1.2.1,x.2.1.2.1.2.2.1,(),x.2.1.2.1.2.2.2.2.1,x.2.1.2.1.2.2.2.2.2.1,x.2.1.2.1.2.2.2.2.2.2.1,x.2.1.2.1.2.2.2.2.2.2.2.1,x.2.1.2.1.2.2.2.2.2.2.2.2.1,(),x.2.1.2.1.2.2.2.2.2.2.2.2.2.2.1,x.2.1.2.1.2.2.2.2.2.2.2.2.2.2.2.1,x.2.1.2.1.2.2.2.2.2.2.2.2.2.2.2.2.1,()),(x.2.1.2.2.1.1,x.2.1.2.2.1.2.1,x.2.1.2.2.1.2.2.1,()),()),(x.2.2.1,x.2.2.2.1,()))
def yv5:Code:=(zdI yko 64 15084).getD .skip
theorem yIn:zdI yko 64 3771=some (.block 0 (.loop yv5)):=by kernel_rfl
theorem yI1 (x:(yaO).X):zg7 ⟨yqc,75,yBc⟩ 0 yv5 15084 yaO yd2 yhK x=yan x:=by kernel_rfl
def yvn (x:(yd7).X):Nat:=(fun (u0:Int) (u1:Int) (u2:Int) (u3:Int) (u4:Int) (u5:Int) (u6:Int) (u7:Int) (u8:Int) (u9:Int) (u10:Bool) (u11:Bool) (u12:Int) (u13:Int) (u14:Int) (u15:Int) (u16:Int) (u17:Int) (u18:Int) (u19:Int) (u20:Int) (u21:Bool) (u22:Bool) (u23:List Int) (u24:Int) (u25:Int) (u26:List dM) (u27:List dW)=>18446744073709551616) x.1.2.2.1.1 x.2.1.1.1 x.2.1.1.2.1 x.2.1.1.2.2.1 x.2.1.1.2.2.2.2.1 x.2.1.1.2.2.2.2.2.1 x.2.1.1.2.2.2.2.2.2.1 x.2.1.1.2.2.2.2.2.2.2.1 x.2.1.1.2.2.2.2.2.2.2.2.1 x.2.1.1.2.2.2.2.2.2.2.2.2.2.1 x.2.1.1.2.2.2.2.2.2.2.2.2.2.2.1 x.2.1.1.2.2.2.2.2.2.2.2.2.2.2.2.1 x.2.1.2.1.1 x.2.1.2.1.2.1 x.2.1.2.1.2.2.1 x.2.1.2.1.2.2.2.2.1 x.2.1.2.1.2.2.2.2.2.1 x.2.1.2.1.2.2.2.2.2.2.1 x.2.1.2.1.2.2.2.2.2.2.2.1 x.2.1.2.1.2.2.2.2.2.2.2.2.1 x.2.1.2.1.2.2.2.2.2.2.2.2.2.2.1 x.2.1.2.1.2.2.2.2.2.2.2.2.2.2.2.1 x.2.1.2.1.2.2.2.2.2.2.2.2.2.2.2.2.1 x.2.1.2.2.1.1 x.2.1.2.2.1.2.1 x.2.1.2.2.1.2.2.1 x.2.2.1 x.2.2.2.1
def ydX (x:(yd7).X):Option ((yd2).X ⊕ (yhK).X):=zr yan (yvn x) (yvi x)
def yvV:Seg:=⟨yd7,yd2,yhK,ydX⟩
def yBd:Nat→Option Seg:=fun q=>bif Nat.beq q 3771 then some yvV else yBc q
theorem yMp:FrOk Tryz.prog ⟨yqc,75,yBd⟩ yko:=(yMo).loop (sg:=yvV) yaO yvi (by decide) yIn yan yvn (by decide) (fun _=>rfl) (fun x r _ h=>h) yI1
abbrev ygw:List Par:= [.pt tU .fz,.rd tI]
abbrev ykX:List OT:= [⟨false,tA,(.pr .fz (.pr (.pr .fz .fz) (.pr (.ow (.pr (.ow .fz) (.pr (.ow (.pr .fz .fz)) (.pr .fz (.ow .fz))))) (.pr .fz (.pr .fz (.pr .fz (.pr .fz (.pr .fz (.pr (.ow (.pr .fz .fz)) (.pr .fz (.pr .fz .fz)))))))))))⟩]
def ycn (a0:dU) (a1:Int):Option (ResD ykX×MutD ygw) :=
  bnd (ygL a0 a1) fun r1 =>
  let r2:=yW r1.1.1
  bif r2 then
    bif (!r1.1.1.2.2.2.2.2.2.2.2.2.2.2) then
      bnd (yA r1.2.1 4) fun r3 =>
      bif (!r3.1.1) then
        bnd (yb r3.2.1 r1.1.1.2.1.1) fun r4 =>
        bif (r1.1.1.2.2.2.1==(-1)) then
          bnd (ygF r1.1.1 r4.1.1) fun r5 =>
          bnd (yA r4.2.1 2) fun r6 =>
          bif r6.1.1 then
            bif (leb 0 r5.2.1.2.2.2.1) then
              bif (inb r5.2.1.2.2.2.1 r5.2.1.2.2.1.length) then
                bif (((nth r5.2.1.2.2.1 r5.2.1.2.2.2.1 ([],[],false,[])).2).2).1 then
                  bnd (yaV r5.2.1) fun r7 =>
                  bnd (yb r6.2.1 (IntKind.i64.wrap (r7.2.1.2.1.2+1))) fun r8 =>
                  zjw (ydX ((((),()),((),()),(r8.1.1,()),()),((0,0,0,(),0,0,0,0,0,(),0,false,false,()),(r7.2.1.1,r7.2.1.2.1.1,r7.2.1.2.1.2,(),r7.2.1.2.2.2.1,r7.2.1.2.2.2.2.1,r7.2.1.2.2.2.2.2.1,r7.2.1.2.2.2.2.2.2.1,r7.2.1.2.2.2.2.2.2.2.1,(),r7.2.1.2.2.2.2.2.2.2.2.2.1,r7.2.1.2.2.2.2.2.2.2.2.2.2.1,r7.2.1.2.2.2.2.2.2.2.2.2.2.2,()),(r8.2.1.1,r8.2.1.2.1,r8.2.1.2.2,()),()),(r7.2.1.2.2.1,r7.2.1.2.2.2.2.2.2.2.2.1,()))) (fun y10 =>
                    some (((y10.2.1.2.1.1,(y10.2.1.2.1.2.1,y10.2.1.2.1.2.2.1),y10.2.2.1,y10.2.1.2.1.2.2.2.2.1,y10.2.1.2.1.2.2.2.2.2.1,y10.2.1.2.1.2.2.2.2.2.2.1,y10.2.1.2.1.2.2.2.2.2.2.2.1,y10.2.1.2.1.2.2.2.2.2.2.2.2.1,y10.2.2.2.1,y10.2.1.2.1.2.2.2.2.2.2.2.2.2.2.1,y10.2.1.2.1.2.2.2.2.2.2.2.2.2.2.2.1,y10.2.1.2.1.2.2.2.2.2.2.2.2.2.2.2.2.1),()),((y10.2.1.2.2.1.1,y10.2.1.2.2.1.2.1,y10.2.1.2.2.1.2.2.1),()))) (fun y10 =>
                    none)
                else
                  some ((r5.2.1,()),(r6.2.1,()))
              else none
            else
              some ((r5.2.1,()),(r6.2.1,()))
          else
            some ((r5.2.1,()),(r6.2.1,()))
        else
          bnd (yA r4.2.1 2) fun r12 =>
          bif r12.1.1 then
            bif (leb 0 r1.1.1.2.2.2.1) then
              bif (inb r1.1.1.2.2.2.1 r1.1.1.2.2.1.length) then
                bif (((nth r1.1.1.2.2.1 r1.1.1.2.2.2.1 ([],[],false,[])).2).2).1 then
                  bnd (yaV r1.1.1) fun r13 =>
                  bnd (yb r12.2.1 (IntKind.i64.wrap (r13.2.1.2.1.2+1))) fun r14 =>
                  zjw (ydX ((((),()),((),()),(r14.1.1,()),()),((0,0,0,(),0,0,0,0,0,(),0,false,false,()),(r13.2.1.1,r13.2.1.2.1.1,r13.2.1.2.1.2,(),r13.2.1.2.2.2.1,r13.2.1.2.2.2.2.1,r13.2.1.2.2.2.2.2.1,r13.2.1.2.2.2.2.2.2.1,r13.2.1.2.2.2.2.2.2.2.1,(),r13.2.1.2.2.2.2.2.2.2.2.2.1,r13.2.1.2.2.2.2.2.2.2.2.2.2.1,r13.2.1.2.2.2.2.2.2.2.2.2.2.2,()),(r14.2.1.1,r14.2.1.2.1,r14.2.1.2.2,()),()),(r13.2.1.2.2.1,r13.2.1.2.2.2.2.2.2.2.2.1,()))) (fun y14 =>
                    some (((y14.2.1.2.1.1,(y14.2.1.2.1.2.1,y14.2.1.2.1.2.2.1),y14.2.2.1,y14.2.1.2.1.2.2.2.2.1,y14.2.1.2.1.2.2.2.2.2.1,y14.2.1.2.1.2.2.2.2.2.2.1,y14.2.1.2.1.2.2.2.2.2.2.2.1,y14.2.1.2.1.2.2.2.2.2.2.2.2.1,y14.2.2.2.1,y14.2.1.2.1.2.2.2.2.2.2.2.2.2.2.1,y14.2.1.2.1.2.2.2.2.2.2.2.2.2.2.2.1,y14.2.1.2.1.2.2.2.2.2.2.2.2.2.2.2.2.1),()),((y14.2.1.2.2.1.1,y14.2.1.2.2.1.2.1,y14.2.1.2.2.1.2.2.1),()))) (fun y14 =>
                    none)
                else
                  some ((r1.1.1,()),(r12.2.1,()))
              else none
            else
              some ((r1.1.1,()),(r12.2.1,()))
          else
            some ((r1.1.1,()),(r12.2.1,()))
      else
        some ((r1.1.1,()),(r3.2.1,()))
    else
      some ((r1.1.1,()),(r1.2.1,()))
  else
    some ((r1.1.1,()),(r1.2.1,()))
theorem yVi (x:InD ygw):zjH ⟨yqc,75,yBd⟩ Tryz.f95.results.toList yko ygw ykX x=ycn x.1 x.2.1:=by kernel_rfl
theorem yQs:ConOk Tryz.prog 95 ⟨ygw,ykX,fun x=>ycn x.1 x.2.1⟩:=zkh (yMp) Tryz.func95 (by kernel_rfl) (by kernel_rfl) Tryz.ntmps95.symm (by decide) (fun x r h=>(yVi x).trans h)
def ys8:Con:=⟨ygw,ykX,fun x=>ycn x.1 x.2.1⟩
theorem yEE:ConOk Tryz.prog 95 ys8:=yQs
theorem yNK {d:List dW}: ∀ (n:Nat) (a:dA) (u:dU) (fuel:Nat),n < fuel→n≤1000→Lo d a→leb 0 a.2.2.2.1=true →
    ∃ a':dA,zr yan fuel (ygi n yU a u)=some (.inl (yGT yU a' u))∧Lo d a'
  | 0,a,u,fuel+1,_,_,h,_=>⟨a,by simp only [zr,yan,ygi,ygn]; rfl,h⟩
  | n+1,a,u,fuel+1,hf,hn,h,h0=>by
    by_cases hc:yg a=false∧ltb a.2.2.2.2.1 a.2.1.2=true
    · obtain ⟨h1,h2⟩:=y0o h h0
      obtain ⟨a',e2,h3⟩:=yNK n (ybn a).2 u fuel (by omega) (by omega) h1 (by rw [h2]; exact h0)
      refine ⟨a',?_,h3⟩
      have hq:=yot a (by unfold ycF; rw [h.2.1,(yGP h h0).1,(yGP h h0).2]; rfl)
      rw [← e2,zr]
      simp only [yan,ygi,ygn,zjI (show (0:Int) < ((n+1:Nat):Int) by omega),cond_true,zkV,hc.2,show ((n+1:Nat):Int) - 1=(n:Int) by omega,wr (show -9223372036854775808≤(n:Int) by omega) (by omega),yGF (show a.2.2.2.2.2.2.2.2.2.2.1=false from hc.1),hq,zky,ygD]
    · refine ⟨a,?_,h⟩
      rw [zr]
      simp only [yan,ygi,ygn,zjI (show (0:Int) < ((n+1:Nat):Int) by omega),cond_true,zkV]
      rcases Bool.eq_false_or_eq_true (yg a) with hd | hd
      · rw [yJW (show a.2.2.2.2.2.2.2.2.2.2.1=true from hd)]
      · rw [yGF (show a.2.2.2.2.2.2.2.2.2.2.1=false from hd)]
        cases hb:ltb a.2.2.2.2.1 a.2.1.2
        · rfl
        · exact absurd ⟨hd,hb⟩ hc
def yZF (u:dU) (a:dA):Option (ResD ykX×MutD ygw) :=
  bnd (yA u 2) fun r12 =>
  bif r12.1.1 then
    bif (leb 0 a.2.2.2.1) then
      bif (inb a.2.2.2.1 a.2.2.1.length) then
        bif (((nth a.2.2.1 a.2.2.2.1 ([],[],false,[])).2).2).1 then
          bnd (yaV a) fun r13 =>
          bnd (yb r12.2.1 (IntKind.i64.wrap (r13.2.1.2.1.2+1))) fun r14 =>
          zjw (ydX ((((),()),((),()),(r14.1.1,()),()),((0,0,0,(),0,0,0,0,0,(),0,false,false,()),(r13.2.1.1,r13.2.1.2.1.1,r13.2.1.2.1.2,(),r13.2.1.2.2.2.1,r13.2.1.2.2.2.2.1,r13.2.1.2.2.2.2.2.1,r13.2.1.2.2.2.2.2.2.1,r13.2.1.2.2.2.2.2.2.2.1,(),r13.2.1.2.2.2.2.2.2.2.2.2.1,r13.2.1.2.2.2.2.2.2.2.2.2.2.1,r13.2.1.2.2.2.2.2.2.2.2.2.2.2,()),(r14.2.1.1,r14.2.1.2.1,r14.2.1.2.2,()),()),(r13.2.1.2.2.1,r13.2.1.2.2.2.2.2.2.2.2.1,()))) (fun y14 =>
            some (((y14.2.1.2.1.1,(y14.2.1.2.1.2.1,y14.2.1.2.1.2.2.1),y14.2.2.1,y14.2.1.2.1.2.2.2.2.1,y14.2.1.2.1.2.2.2.2.2.1,y14.2.1.2.1.2.2.2.2.2.2.1,y14.2.1.2.1.2.2.2.2.2.2.2.1,y14.2.1.2.1.2.2.2.2.2.2.2.2.1,y14.2.2.2.1,y14.2.1.2.1.2.2.2.2.2.2.2.2.2.2.1,y14.2.1.2.1.2.2.2.2.2.2.2.2.2.2.2.1,y14.2.1.2.1.2.2.2.2.2.2.2.2.2.2.2.2.1),()),((y14.2.1.2.2.1.1,y14.2.1.2.2.1.2.1,y14.2.1.2.2.1.2.2.1),()))) (fun y14 =>
            none)
        else
          some ((a,()),(r12.2.1,()))
      else none
    else
      some ((a,()),(r12.2.1,()))
  else
    some ((a,()),(r12.2.1,()))
theorem yNJ {d:List dW} (u:dU) (a:dA) (h:Lo d a) (hu:yG u): ∃ (a':dA) (u':dU),yZF u a=some ((a',()),(u',()))∧Lo d a'∧yG u':=by
  have hg:=yk.1 h.2.1
  obtain ⟨r,u1,e1,d1⟩:=yAP u 2 hu
  unfold yZF
  rw [e1,zky]
  cases r
  · exact ⟨_,_,rfl,h,d1⟩
  · cases h0:leb 0 a.2.2.2.1
    · exact ⟨_,_,rfl,h,d1⟩
    · obtain ⟨i1,i2⟩:=yGP h h0
      rw [i1]
      cases (nth a.2.2.1 a.2.2.2.1 ([],[],false,[])).2.2.1
      · exact ⟨_,_,rfl,h,d1⟩
      · have hn:=y1z h
        have e0:(yy (yx a)).2.2.2.1=a.2.2.2.1:=(yJX (ylt (yx a))).trans rfl
        have eg:(yy (yx a)).2.1=a.2.1:=(yen (ylt (yx a))).trans rfl
        simp only [cond_true]
        rw [ytv a (by unfold ydp; rw [h.2.1,i1]; rfl)]
        simp only [zky,yjt]
        generalize yy (yx a)=R at hn e0 eg ⊢
        rw [show IntKind.i64.wrap (R.2.1.2+1)=a.2.1.2+1 by rw [eg]; exact wr (by omega) (by omega)]
        obtain ⟨x,u2,e2,q2,d2⟩:=yw u1 (a.2.1.2+1) d1
        have:=q2.1; have:=q2.2.1 (by omega)
        obtain ⟨a',e3,h3⟩:=yNK x.toNat R u2 18446744073709551616 (by omega) (by omega) hn (by rw [e0]; exact h0)
        rw [show ((x.toNat:Nat):Int)=x by omega]at e3
        rw [e2,zky]
        refine ⟨a',u2,?_,h3,d2⟩
        exact (congrArg (fun z=>zjw z _ _) (show ydX (yGY x yU R u2)=_ from e3)).trans rfl
theorem yRQ (u:dU) (most:Int) (h:yG u) (h0:0≤most) (h1:most≤1000): ∃ (a:dA) (u':dU),ycn u most=some ((a,()),(u',()))∧yb2 a∧yG u':=by
  obtain ⟨a,u1,e1,q1,d1⟩:=y1t u most h h0 h1
  unfold ycn
  simp only [e1,zky,yW]
  cases ha:ym a
  · exact ⟨_,_,rfl,q1,d1⟩
  · have hlo:=y04 ha
    have hg:=yk.1 hlo.2.1
    have hlen: ∀ {b:dA},Lo a.2.2.2.2.2.2.2.2.1 b→yb2 b:=fun hb=>ytc hb.1 q1.2.2
    rcases Bool.eq_false_or_eq_true a.2.2.2.2.2.2.2.2.2.2.2 with hb | hb
    · rw [cond_true,yJW hb]
      exact ⟨_,_,rfl,q1,d1⟩
    · rw [cond_true,yGF hb]
      obtain ⟨r,u2,e2,d2⟩:=yAP u1 4 d1
      rw [e2,zky]
      cases r
      · obtain ⟨m,u3,e3,q3,d3⟩:=yw u2 a.2.1.1 d2
        have hm:inb m a.2.2.1.length=true:=zjP.2 ⟨q3.1,by have:=q3.2.1 (by omega); have:=hlo.2.2.1; omega⟩
        simp only [Bool.not_false,cond_true]
        rw [e3,zky]
        cases (a.2.2.2.1== -1)
        · obtain ⟨a',u',e4,h4,d4⟩:=yNJ u3 a hlo d3
          exact ⟨a',u',e4,hlen h4,d4⟩
        · rw [cond_true,yEH a m hm,zky]
          obtain ⟨a',u',e4,h4,d4⟩:=yNJ u3 (yqA a m) (y1Y hlo hm) d3
          exact ⟨a',u',e4,hlen h4,d4⟩
      · exact ⟨_,_,rfl,q1,d2⟩
end
section
def yHw:Code:=(Tryz.f96.body).getD .skip
def yHZ:Env:=zki TT [] []
theorem yOV:FrOk Tryz.prog ⟨yHZ,15,fun _=>none⟩ yHw:=zkp yc yd trivial
def yRn:Nat→Option Seg:=fun _=>none
abbrev ymG:List Par:= [.rd tYs,.rd tI]
abbrev ysu:List OT:= [⟨false,tI,.fz⟩]
def yvN (a0:List Int) (a1:Int):Option (ResD ysu×MutD ymG) :=
  bif (ltb a1 (IntKind.i64.wrap (3+(IntKind.i64.wrap ((a0.length:Int).tdiv 12))))) then
    some ((a1,()),())
  else
    some (((IntKind.i64.wrap (3+(IntKind.i64.wrap ((a0.length:Int).tdiv 12)))),()),())
theorem yXS (x:InD ymG):zjH ⟨yHZ,15,yRn⟩ Tryz.f96.results.toList yHw ymG ysu x=yvN x.1 x.2.1:=by kernel_rfl
theorem yTR:ConOk Tryz.prog 96 ⟨ymG,ysu,fun x=>yvN x.1 x.2.1⟩:=zkh (yOV) Tryz.func96 (by kernel_rfl) (by kernel_rfl) Tryz.ntmps96.symm (by decide) (fun x r h=>(yXS x).trans h)
def yfF (a0:List Int) (a1:Int):Int :=
  bif (ltb a1 (IntKind.i64.wrap (3+(IntKind.i64.wrap ((a0.length:Int).tdiv 12))))) then
    a1
  else
    (IntKind.i64.wrap (3+(IntKind.i64.wrap ((a0.length:Int).tdiv 12))))
def yvd:Con:=⟨ymG,ysu,fun x=>(fun n=>some ((n,()),())) (yfF x.1 x.2.1)⟩
theorem yVR (a0:List Int) (a1:Int):yvN a0 a1=(fun n=>some ((n,()),())) (yfF a0 a1):=zkS (p:=fun (n:Int)=>((n,()),())) (zkx (p:=fun (n:Int)=>((n,()),())) rfl rfl)
theorem yGu:ConOk Tryz.prog 96 yvd:=(yTR).mono (fun x r _ h=>(yVR x.1 x.2.1).trans h)
theorem y0l (l:List Int) (n:Int) (hn:0≤n) (hl:l.length≤140737488355328):0≤yfF l n∧yfF l n≤n:=by
  unfold yfF
  have h1:0≤(l.length:Int).tdiv 12:=Int.tdiv_nonneg (by omega) (by omega)
  have h2:(l.length:Int).tdiv 12≤(l.length:Int):=by
    rw [Int.tdiv_eq_ediv_of_nonneg (by omega)]
    exact Int.ediv_le_self _ (by omega)
  rw [wr (show -9223372036854775808≤(l.length:Int).tdiv 12 by omega) (by omega),wr (show -9223372036854775808≤3+(l.length:Int).tdiv 12 by omega) (by omega)]
  by_cases h:n < 3+(l.length:Int).tdiv 12
  · rw [zjI h]; exact ⟨hn,Int.le_refl _⟩
  · rw [zkm (by omega),cond_false]; omega
end
section
def yHC:Code:=(Tryz.f97.body).getD .skip
def yH5:Env:=zki TT [(110,yjj),(150,yv)] []
theorem yPh:FrOk Tryz.prog ⟨yH5,16,fun _=>none⟩ yHC:=zkp yc yd ⟨yqG,yE,trivial⟩
def yRt:Nat→Option Seg:=fun _=>none
abbrev ymM:List Par:= [.pt tU .fz,.kp tA (.pr .fz (.pr (.pr .fz .fz) (.pr (.ow (.pr (.ow .fz) (.pr (.ow (.pr .fz .fz)) (.pr .fz (.ow .fz))))) (.pr .fz (.pr .fz (.pr .fz (.pr .fz (.pr .fz (.pr (.ow (.pr .fz .fz)) (.pr .fz (.pr .fz .fz)))))))))))]
abbrev ysD:List OT:= [⟨false,tA,(.pr .fz (.pr (.pr .fz .fz) (.pr (.ow (.pr (.ow .fz) (.pr (.ow (.pr .fz .fz)) (.pr .fz (.ow .fz))))) (.pr .fz (.pr .fz (.pr .fz (.pr .fz (.pr .fz (.pr (.ow (.pr .fz .fz)) (.pr .fz (.pr .fz .fz)))))))))))⟩]
def yV (a0:dU) (a1:dA):Option (ResD ysD×MutD ymM) :=
  bnd (yA a0 2) fun r1 =>
  bif r1.1.1 then
    bif (a1.2.2.2.2.2.2.2.2.2.1==(-1)) then
      bnd (yb r1.2.1 14) fun r2 =>
      some (((a1.1,a1.2.1,a1.2.2.1,a1.2.2.2.1,a1.2.2.2.2.1,a1.2.2.2.2.2.1,a1.2.2.2.2.2.2.1,a1.2.2.2.2.2.2.2.1,a1.2.2.2.2.2.2.2.2.1,r2.1.1,a1.2.2.2.2.2.2.2.2.2.2),()),(r2.2.1,()))
    else
      some ((a1,()),(r1.2.1,()))
  else
    some ((a1,()),(r1.2.1,()))
theorem yX5 (x:InD ymM):zjH ⟨yH5,16,yRt⟩ Tryz.f97.results.toList yHC ymM ysD x=yV x.1 x.2.1:=by kernel_rfl
theorem yT4:ConOk Tryz.prog 97 ⟨ymM,ysD,fun x=>yV x.1 x.2.1⟩:=zkh (yPh) Tryz.func97 (by kernel_rfl) (by kernel_rfl) Tryz.ntmps97.symm (by decide) (fun x r h=>(yX5 x).trans h)
def yve:Con:=⟨ymM,ysD,fun x=>yV x.1 x.2.1⟩
theorem yGv:ConOk Tryz.prog 97 yve:=yT4
theorem y0k (u:dU) (a:dA) (h:yG u) (ha:yb2 a): ∃ (a':dA) (u':dU),yV u a=some ((a',()),(u',()))∧yb2 a'∧yG u':=by
  unfold yV
  obtain ⟨r,u1,e1,d1⟩:=yAP u 2 h
  simp only [e1,zky]
  cases r
  · exact ⟨_,_,rfl,ha,d1⟩
  · cases (a.2.2.2.2.2.2.2.2.2.1== -1)
    · exact ⟨_,_,rfl,ha,d1⟩
    · obtain ⟨x,u2,e2,_,d2⟩:=yw u1 14 d1
      simp only [cond_true,e2,zky]
      exact ⟨_,_,rfl,ha,d2⟩
end
section
def yAX:Code:=(Tryz.f13.body).getD .skip
def yBp:Env:=zki TT [(94,ywV),(95,ys8),(96,yvd),(97,yve)] []
theorem yIz:FrOk Tryz.prog ⟨yBp,14,fun _=>none⟩ yAX:=zkp yc yd ⟨yIe,yEE,yGu,yGv,trivial⟩
def yJr:Nat→Option Seg:=fun _=>none
abbrev ygT:List Par:= [.kp tYs .fz]
abbrev ylE:List OT:= [⟨false,tA,(.pr .fz (.pr (.pr .fz .fz) (.pr (.ow (.pr (.ow .fz) (.pr (.ow (.pr .fz .fz)) (.pr .fz (.ow .fz))))) (.pr .fz (.pr .fz (.pr .fz (.pr .fz (.pr .fz (.pr (.ow (.pr .fz .fz)) (.pr .fz (.pr .fz .fz)))))))))))⟩]
def yap (a0:List Int):Option (ResD ylE×MutD ygT) :=
  let r1:=yhB a0
  let r2:=yfF a0 10
  bnd (ycn r1 r2) fun r3 =>
  bnd (yV r3.2.1 r3.1.1) fun r4 =>
  some ((r4.1.1,()),())
theorem yOt (x:InD ygT):zjH ⟨yBp,14,yJr⟩ Tryz.f13.results.toList yAX ygT ylE x=yap x.1:=by kernel_rfl
theorem yK8:ConOk Tryz.prog 13 ⟨ygT,ylE,fun x=>yap x.1⟩:=zkh (yIz) Tryz.func13 (by kernel_rfl) (by kernel_rfl) Tryz.ntmps13.symm (by decide) (fun x r h=>(yOt x).trans h)
def yji:Con:=⟨ygT,ylE,fun x=>yap x.1⟩
theorem yrw:ConOk Tryz.prog 13 yji:=yK8
theorem yBS (a0:List Int) (hb:a0.length≤140737488355328): ∃ a:dA,yap a0=some ((a,()),())∧yb2 a:=by
  unfold yap
  obtain ⟨h1,h2⟩:=y0l a0 10 (by omega) hb
  obtain ⟨a,u1,e1,q1,d1⟩:=yRQ _ _ (y0Y a0 hb) h1 (by omega)
  obtain ⟨a',u2,e2,q2,d2⟩:=y0k u1 a d1 q1
  simp only [e1,e2,zky]
  exact ⟨a',rfl,q2⟩
end
end
end Go.Tf
