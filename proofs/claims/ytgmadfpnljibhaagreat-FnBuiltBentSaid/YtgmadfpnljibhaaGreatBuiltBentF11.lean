/- Functions of the program, and what they come to. -/
import Derived.Test.YtgmadfpnljibhaaGreatBuiltBentF10
namespace Go.Tf
noncomputable section
open Go.Proofs
set_option synthInstance.maxHeartbeats 400000
set_option synthInstance.maxSize 10000
set_option linter.unusedVariables false
set_option linter.unusedSimpArgs false
set_option maxRecDepth 100000
section
def ymn:Code:=(Tryz.f113.body).getD .skip
def yr4:Env:=zki TT [(49,yEe),(150,yv),(209,yF5),(210,yEo)] []
theorem yO7:FrOk Tryz.prog ⟨yr4,24,fun _=>none⟩ ymn:=zkp yc yd ⟨yWF,yE,yYL,yWP,trivial⟩
def yDw:Nat→Option Seg:=fun _=>none
def ych:Shape:=⟨[(0,false,[.ptr 1000000000 0]),(4,false,[.ptr 0 0]),(5,false,[.ptr 4480 0]),(6,false,[.int .i64])],[(0,[.int .i64,.int .i64,.int .i64,.nil,.int .i64,.int .i64,.int .i64,.int .i64,.int .i64,.nil,.int .i64,.bool,.bool]),(4480,[.int .i64,.int .i64,.int .i64,.at 800000000,.int .i64,.int .i64,.int .i64,.int .i64,.int .i64,.at 800000001,.int .i64,.bool,.bool]),(1000000000,[.fz tY,.int .i64,.int .i64])],[(800000000,tM,(.pr (.ow .fz) (.pr (.ow (.pr .fz .fz)) (.pr .fz (.ow .fz))))),(800000001,tW,(.pr .fz .fz))]⟩
def yhj:Shape:=⟨[(0,false,[.ptr 1000000000 0]),(4,false,[.ptr 0 0]),(5,false,[.ptr 4480 0]),(6,false,[.int .i64])],[(0,[.int .i64,.int .i64,.int .i64,.nil,.int .i64,.int .i64,.int .i64,.int .i64,.int .i64,.nil,.int .i64,.bool,.bool]),(4480,[.int .i64,.int .i64,.int .i64,.at 800000000,.int .i64,.int .i64,.int .i64,.int .i64,.int .i64,.at 800000001,.int .i64,.bool,.bool]),(1000000000,[.fz tY,.int .i64,.int .i64])],[(800000000,tM,(.pr (.ow .fz) (.pr (.ow (.pr .fz .fz)) (.pr .fz (.ow .fz))))),(800000001,tW,(.pr .fz .fz))]⟩
def yg7:Shape:=⟨[(4,false,[.ptr 0 0]),(5,false,[.ptr 4480 0])],[(0,[.int .i64,.int .i64,.int .i64,.nil,.int .i64,.int .i64,.int .i64,.int .i64,.int .i64,.nil,.int .i64,.bool,.bool]),(4480,[.int .i64,.int .i64,.int .i64,.at 800000000,.int .i64,.int .i64,.int .i64,.int .i64,.int .i64,.at 800000001,.int .i64,.bool,.bool]),(1000000000,[.fz tY,.int .i64,.int .i64])],[(800000000,tM,(.pr (.ow .fz) (.pr (.ow (.pr .fz .fz)) (.pr .fz (.ow .fz))))),(800000001,tW,(.pr .fz .fz))]⟩
def ylN:Shape:=⟨[],[],[]⟩
abbrev yrs (v0:Int) (v1:dA) (v2:dA) (v3:dU):(ych).X:=((((),()),((),()),((),()),(v0,()),()),((v1.1,v1.2.1.1,v1.2.1.2,(),v1.2.2.2.1,v1.2.2.2.2.1,v1.2.2.2.2.2.1,v1.2.2.2.2.2.2.1,v1.2.2.2.2.2.2.2.1,(),v1.2.2.2.2.2.2.2.2.2.1,v1.2.2.2.2.2.2.2.2.2.2.1,v1.2.2.2.2.2.2.2.2.2.2.2,()),(v2.1,v2.2.1.1,v2.2.1.2,(),v2.2.2.2.1,v2.2.2.2.2.1,v2.2.2.2.2.2.1,v2.2.2.2.2.2.2.1,v2.2.2.2.2.2.2.2.1,(),v2.2.2.2.2.2.2.2.2.2.1,v2.2.2.2.2.2.2.2.2.2.2.1,v2.2.2.2.2.2.2.2.2.2.2.2,()),(v3.1,v3.2.1,v3.2.2,()),()),(v2.2.2.1,v2.2.2.2.2.2.2.2.2.1,()))
abbrev yMQ (v0:Int) (v1:dA) (v2:dA) (v3:dU):(yhj).X:=((((),()),((),()),((),()),(v0,()),()),((v1.1,v1.2.1.1,v1.2.1.2,(),v1.2.2.2.1,v1.2.2.2.2.1,v1.2.2.2.2.2.1,v1.2.2.2.2.2.2.1,v1.2.2.2.2.2.2.2.1,(),v1.2.2.2.2.2.2.2.2.2.1,v1.2.2.2.2.2.2.2.2.2.2.1,v1.2.2.2.2.2.2.2.2.2.2.2,()),(v2.1,v2.2.1.1,v2.2.1.2,(),v2.2.2.2.1,v2.2.2.2.2.1,v2.2.2.2.2.2.1,v2.2.2.2.2.2.2.1,v2.2.2.2.2.2.2.2.1,(),v2.2.2.2.2.2.2.2.2.2.1,v2.2.2.2.2.2.2.2.2.2.2.1,v2.2.2.2.2.2.2.2.2.2.2.2,()),(v3.1,v3.2.1,v3.2.2,()),()),(v2.2.2.1,v2.2.2.2.2.2.2.2.2.1,()))
abbrev yMG (v0:dA) (v1:dA) (v2:dU):(yg7).X:=((((),()),((),()),()),((v0.1,v0.2.1.1,v0.2.1.2,(),v0.2.2.2.1,v0.2.2.2.2.1,v0.2.2.2.2.2.1,v0.2.2.2.2.2.2.1,v0.2.2.2.2.2.2.2.1,(),v0.2.2.2.2.2.2.2.2.2.1,v0.2.2.2.2.2.2.2.2.2.2.1,v0.2.2.2.2.2.2.2.2.2.2.2,()),(v1.1,v1.2.1.1,v1.2.1.2,(),v1.2.2.2.1,v1.2.2.2.2.1,v1.2.2.2.2.2.1,v1.2.2.2.2.2.2.1,v1.2.2.2.2.2.2.2.1,(),v1.2.2.2.2.2.2.2.2.2.1,v1.2.2.2.2.2.2.2.2.2.2.1,v1.2.2.2.2.2.2.2.2.2.2.2,()),(v2.1,v2.2.1,v2.2.2,()),()),(v1.2.2.1,v1.2.2.2.2.2.2.2.2.1,()))
def yrJ (v0:Int) (v1:Int) (v2:Int) (v3:Int) (v4:Int) (v5:Int) (v6:Int) (v7:Int) (v8:Int) (v9:Int) (v10:Bool) (v11:Bool) (v12:Int) (v13:Int) (v14:Int) (v15:Int) (v16:Int) (v17:Int) (v18:Int) (v19:Int) (v20:Int) (v21:Bool) (v22:Bool) (v23:List Int) (v24:Int) (v25:Int) (v26:List dM) (v27:List dW):Option ((ych).X ⊕ ((yg7).X ⊕ (ylN).X)) :=
  bif (ltb 0 v0) then
    bnd (yfv (v23,v24,v25) (v12,(v13,v14),v26,v15,v16,v17,v18,v19,v27,v20,v21,v22)) fun r6 =>
    some (.inl ((((),()),((),()),((),()),((IntKind.i64.wrap (v0 - 1)),()),()),((v1,v2,v3,(),v4,v5,v6,v7,v8,(),v9,v10,v11,()),(r6.2.2.1.1,r6.2.2.1.2.1.1,r6.2.2.1.2.1.2,(),r6.2.2.1.2.2.2.1,r6.2.2.1.2.2.2.2.1,r6.2.2.1.2.2.2.2.2.1,r6.2.2.1.2.2.2.2.2.2.1,r6.2.2.1.2.2.2.2.2.2.2.1,(),r6.2.2.1.2.2.2.2.2.2.2.2.2.1,r6.2.2.1.2.2.2.2.2.2.2.2.2.2.1,r6.2.2.1.2.2.2.2.2.2.2.2.2.2.2,()),(r6.2.1.1,r6.2.1.2.1,r6.2.1.2.2,()),()),(r6.2.2.1.2.2.1,r6.2.2.1.2.2.2.2.2.2.2.2.1,())))
  else
    some (.inr (.inl ((((),()),((),()),()),((v1,v2,v3,(),v4,v5,v6,v7,v8,(),v9,v10,v11,()),(v12,v13,v14,(),v15,v16,v17,v18,v19,(),v20,v21,v22,()),(v23,v24,v25,()),()),(v26,v27,()))))
def ycS (x:(ych).X):=yrJ x.1.2.2.2.1.1 x.2.1.1.1 x.2.1.1.2.1 x.2.1.1.2.2.1 x.2.1.1.2.2.2.2.1 x.2.1.1.2.2.2.2.2.1 x.2.1.1.2.2.2.2.2.2.1 x.2.1.1.2.2.2.2.2.2.2.1 x.2.1.1.2.2.2.2.2.2.2.2.1 x.2.1.1.2.2.2.2.2.2.2.2.2.2.1 x.2.1.1.2.2.2.2.2.2.2.2.2.2.2.1 x.2.1.1.2.2.2.2.2.2.2.2.2.2.2.2.1 x.2.1.2.1.1 x.2.1.2.1.2.1 x.2.1.2.1.2.2.1 x.2.1.2.1.2.2.2.2.1 x.2.1.2.1.2.2.2.2.2.1 x.2.1.2.1.2.2.2.2.2.2.1 x.2.1.2.1.2.2.2.2.2.2.2.1 x.2.1.2.1.2.2.2.2.2.2.2.2.1 x.2.1.2.1.2.2.2.2.2.2.2.2.2.2.1 x.2.1.2.1.2.2.2.2.2.2.2.2.2.2.2.1 x.2.1.2.1.2.2.2.2.2.2.2.2.2.2.2.2.1 x.2.1.2.2.1.1 x.2.1.2.2.1.2.1 x.2.1.2.2.1.2.2.1 x.2.2.1 x.2.2.2.1
def yz0 (x:(yhj).X):(ych).X:=((((),()),((),()),((),()),(x.1.2.2.2.1.1,()),()),((x.2.1.1.1,x.2.1.1.2.1,x.2.1.1.2.2.1,(),x.2.1.1.2.2.2.2.1,x.2.1.1.2.2.2.2.2.1,x.2.1.1.2.2.2.2.2.2.1,x.2.1.1.2.2.2.2.2.2.2.1,x.2.1.1.2.2.2.2.2.2.2.2.1,(),x.2.1.1.2.2.2.2.2.2.2.2.2.2.1,x.2.1.1.2.2.2.2.2.2.2.2.2.2.2.1,x.2.1.1.2.2.2.2.2.2.2.2.2.2.2.2.1,()),(x.2.1.2.1.1,x.2.1.2.1.2.1,x.2.1.2.1.2.2.1,(),x.2.1.2.1.2.2.2.2.1,x.2.1.2.1.2.2.2.2.2.1,x.2.1.2.1.2.2.2.2.2.2.1,x.2.1.2.1.2.2.2.2.2.2.2.1,x.2.1.2.1.2.2.2.2.2.2.2.2.1,(),x.2.1.2.1.2.2.2.2.2.2.2.2.2.2.1,x.2.1.2.1.2.2.2.2.2.2.2.2.2.2.2.1,x.2.1.2.1.2.2.2.2.2.2.2.2.2.2.2.2.1,()),(x.2.1.2.2.1.1,x.2.1.2.2.1.2.1,x.2.1.2.2.1.2.2.1,()),()),(x.2.2.1,x.2.2.2.1,()))
def yBD:Code:=(zdI ymn 64 116).getD .skip
theorem yOd:zdI ymn 64 29=some (.block 0 (.loop yBD)):=by kernel_rfl
theorem yQW (x:(ych).X):zg7 ⟨yr4,24,yDw⟩ 0 yBD 116 ych yg7 ylN x=ycS x:=by kernel_rfl
def yAc (x:(yhj).X):Nat:=(fun (u0:Int) (u1:Int) (u2:Int) (u3:Int) (u4:Int) (u5:Int) (u6:Int) (u7:Int) (u8:Int) (u9:Int) (u10:Bool) (u11:Bool) (u12:Int) (u13:Int) (u14:Int) (u15:Int) (u16:Int) (u17:Int) (u18:Int) (u19:Int) (u20:Int) (u21:Bool) (u22:Bool) (u23:List Int) (u24:Int) (u25:Int) (u26:List dM) (u27:List dW)=>18446744073709551616) x.1.2.2.2.1.1 x.2.1.1.1 x.2.1.1.2.1 x.2.1.1.2.2.1 x.2.1.1.2.2.2.2.1 x.2.1.1.2.2.2.2.2.1 x.2.1.1.2.2.2.2.2.2.1 x.2.1.1.2.2.2.2.2.2.2.1 x.2.1.1.2.2.2.2.2.2.2.2.1 x.2.1.1.2.2.2.2.2.2.2.2.2.2.1 x.2.1.1.2.2.2.2.2.2.2.2.2.2.2.1 x.2.1.1.2.2.2.2.2.2.2.2.2.2.2.2.1 x.2.1.2.1.1 x.2.1.2.1.2.1 x.2.1.2.1.2.2.1 x.2.1.2.1.2.2.2.2.1 x.2.1.2.1.2.2.2.2.2.1 x.2.1.2.1.2.2.2.2.2.2.1 x.2.1.2.1.2.2.2.2.2.2.2.1 x.2.1.2.1.2.2.2.2.2.2.2.2.1 x.2.1.2.1.2.2.2.2.2.2.2.2.2.2.1 x.2.1.2.1.2.2.2.2.2.2.2.2.2.2.2.1 x.2.1.2.1.2.2.2.2.2.2.2.2.2.2.2.2.1 x.2.1.2.2.1.1 x.2.1.2.2.1.2.1 x.2.1.2.2.1.2.2.1 x.2.2.1 x.2.2.2.1
def ys1 (x:(yhj).X):Option ((yg7).X ⊕ (ylN).X):=zr ycS (yAc x) (yz0 x)
def yAy:Seg:=⟨yhj,yg7,ylN,ys1⟩
def yDx:Nat→Option Seg:=fun q=>bif Nat.beq q 29 then some yAy else yDw q
theorem yO8:FrOk Tryz.prog ⟨yr4,24,yDx⟩ ymn:=(yO7).loop (sg:=yAy) ych yz0 (by decide) yOd ycS yAc (by decide) (fun _=>rfl) (fun x r _ h=>h) yQW
abbrev ymJ:List Par:= [.pt tU .fz,.rd tI]
abbrev ysz:List OT:= [⟨false,tA,(.pr .fz (.pr (.pr .fz .fz) (.pr (.ow (.pr (.ow .fz) (.pr (.ow (.pr .fz .fz)) (.pr .fz (.ow .fz))))) (.pr .fz (.pr .fz (.pr .fz (.pr .fz (.pr .fz (.pr (.ow (.pr .fz .fz)) (.pr .fz (.pr .fz .fz)))))))))))⟩]
def yfu (a0:dU) (a1:Int):Option (ResD ysz×MutD ymJ) :=
  bnd (yb a0 2) fun r1 =>
  bnd (ygM r1.2.1) fun r2 =>
  let r3:=ym1 (IntKind.i64.wrap (1+r1.1.1)) r2.1.1
  bnd (yb r2.2.1 (IntKind.i64.wrap (a1+1))) fun r4 =>
  zjw (ys1 ((((),()),((),()),((),()),(r4.1.1,()),()),((0,0,0,(),0,0,0,0,0,(),0,false,false,()),(r3.1,r3.2.1.1,r3.2.1.2,(),r3.2.2.2.1,r3.2.2.2.2.1,r3.2.2.2.2.2.1,r3.2.2.2.2.2.2.1,r3.2.2.2.2.2.2.2.1,(),r3.2.2.2.2.2.2.2.2.2.1,r3.2.2.2.2.2.2.2.2.2.2.1,r3.2.2.2.2.2.2.2.2.2.2.2,()),(r4.2.1.1,r4.2.1.2.1,r4.2.1.2.2,()),()),(r3.2.2.1,r3.2.2.2.2.2.2.2.2.1,()))) (fun y6 =>
    some (((y6.2.1.2.1.1,(y6.2.1.2.1.2.1,y6.2.1.2.1.2.2.1),y6.2.2.1,y6.2.1.2.1.2.2.2.2.1,y6.2.1.2.1.2.2.2.2.2.1,y6.2.1.2.1.2.2.2.2.2.2.1,y6.2.1.2.1.2.2.2.2.2.2.2.1,y6.2.1.2.1.2.2.2.2.2.2.2.2.1,y6.2.2.2.1,y6.2.1.2.1.2.2.2.2.2.2.2.2.2.2.1,y6.2.1.2.1.2.2.2.2.2.2.2.2.2.2.2.1,y6.2.1.2.1.2.2.2.2.2.2.2.2.2.2.2.2.1),()),((y6.2.1.2.2.1.1,y6.2.1.2.2.1.2.1,y6.2.1.2.2.1.2.2.1),()))) (fun y6 =>
    none)
theorem yXY (x:InD ymJ):zjH ⟨yr4,24,yDx⟩ Tryz.f113.results.toList ymn ymJ ysz x=yfu x.1 x.2.1:=by kernel_rfl
theorem yTX:ConOk Tryz.prog 113 ⟨ymJ,ysz,fun x=>yfu x.1 x.2.1⟩:=zkh (yO8) Tryz.func113 (by kernel_rfl) (by kernel_rfl) Tryz.ntmps113.symm (by decide) (fun x r h=>(yXY x).trans h)
def yEm:Con:=⟨ymJ,ysz,fun x=>yfu x.1 x.2.1⟩
theorem yWN:ConOk Tryz.prog 113 yEm:=yTX
theorem yXc: ∀ (n:Nat) (k:Int) (a:dA) (u:dU) (fuel:Nat),n < fuel→yG u→Wk k a→k+8 * n≤60000 →
    ∃ (a':dA) (u':dU),zr ycS fuel (yrs n yU a u)=some (.inl (yMG yU a' u'))∧yG u'∧Wk (k+8 * n) a'
  | 0,k,a,u,fuel+1,_,hu,h,_=>⟨a,u,by simp only [zr,ycS,yrs,yrJ]; rfl,hu,yab h (by omega)⟩
  | n+1,k,a,u,fuel+1,hf,hu,h,hk=>by
    have hn:(n:Int)≤60000:=by have:=h.1.2.2.2.2.2.2.2.2.2.1; have:=h.2.2.2.2; omega
    obtain ⟨u1,a1,e1,d1,h1⟩:=y1T u a hu h (by omega)
    obtain ⟨a',u',e2,d2,h2⟩:=yXc n (k+8) a1 u1 fuel (by omega) d1 h1 (by omega)
    refine ⟨a',u',?_,d2,yab h2 (by omega)⟩
    rw [← e2,zr]
    simp only [ycS,yrs,yrJ,zjI (show (0:Int) < ((n+1:Nat):Int) by omega),cond_true,zkV,e1,zky,show ((n+1:Nat):Int) - 1=(n:Int) by omega,wr (show -9223372036854775808≤(n:Int) by omega) (by omega)]
theorem y0X (u:dU) (most:Int) (h:yG u) (h0:0≤most) (h1:most≤1000): ∃ (a:dA) (u':dU),yfu u most=some ((a,()),(u',()))∧Wk 8000 a∧yG u':=by
  obtain ⟨r1,u1,e1,q1,d1⟩:=yw u 2 h
  obtain ⟨g,u2,e2,q2,d2⟩:=y1u u1 d1
  obtain ⟨r3,u3,e3,q3,d3⟩:=yw u2 (most+1) d2
  have:=q1.1; have:=q1.2.1 (by omega); have:=q3.1; have:=q3.2.1 (by omega)
  have hn:=y2p (id:=1+r1) q2 (by omega) (by omega)
  obtain ⟨a',u',e4,d4,h4⟩:=yXc r3.toNat 0 (yBr (1+r1) g) u3 18446744073709551616 (by omega) d3 hn (by omega)
  rw [show ((r3.toNat:Nat):Int)=r3 by omega]at e4
  unfold yfu
  simp only [e1,e2,zky,wr (show -9223372036854775808≤most+1 by omega) (by omega),e3,wr (show -9223372036854775808≤1+r1 by omega) (by omega),ym1]
  refine ⟨a',u',?_,yab h4 (by omega),d4⟩
  exact (congrArg (fun z=>zjw z _ _) (show ys1 (yMQ r3 yU (yBr (1+r1) g) u3)=_ from e4)).trans rfl
end
section
def yJg:Code:=(Tryz.f217.body).getD .skip
def yJF:Env:=zki TT [(150,yv)] []
theorem ySO:FrOk Tryz.prog ⟨yJF,10,fun _=>none⟩ yJg:=zkp yc yd ⟨yE,trivial⟩
def yUV:Nat→Option Seg:=fun _=>none
abbrev yph:List Par:= [.pt tU .fz]
abbrev yuY:List OT:= [⟨false,tG,(.pr .fz .fz)⟩]
def ygK (a0:dU):Option (ResD yuY×MutD yph) :=
  bnd (yb a0 3) fun r1 =>
  bnd (yb r1.2.1 8) fun r2 =>
  some ((((IntKind.i64.wrap (3+r1.1.1)),(IntKind.i64.wrap (1+r2.1.1))),()),(r2.2.1,()))
theorem yZq (x:InD yph):zjH ⟨yJF,10,yUV⟩ Tryz.f217.results.toList yJg yph yuY x=ygK x.1:=by kernel_rfl
theorem yWr:ConOk Tryz.prog 217 ⟨yph,yuY,fun x=>ygK x.1⟩:=zkh (ySO) Tryz.func217 (by kernel_rfl) (by kernel_rfl) Tryz.ntmps217.symm (by decide) (fun x r h=>(yZq x).trans h)
def yF3:Con:=⟨yph,yuY,fun x=>ygK x.1⟩
theorem yYJ:ConOk Tryz.prog 217 yF3:=yWr
theorem y2f (u:List Int×Int×Int) (h:yG u): ∃ (g:Int×Int) (u':List Int×Int×Int),ygK u=some ((g,()),(u',()))∧yf g=true∧yG u':=by
  unfold ygK
  obtain ⟨r1,u1,e1,q1,d1⟩:=yw u 3 h
  obtain ⟨r2,u2,e2,q2,d2⟩:=yw u1 8 d1
  simp only [e1,e2,zky]
  refine ⟨_,_,rfl,?_,d2⟩
  have:=q1.2.1 (by omega); have:=q2.2.1 (by omega); have:=q1.1; have:=q2.1
  rw [wr (by omega) (by omega),wr (by omega) (by omega)]
  exact yk.2 ⟨⟨by show 3≤3+r1; omega,by show 3+r1≤5; omega⟩,by show 1≤1+r2; omega,by show 1+r2≤8; omega⟩
end
section
def yJf:Code:=(Tryz.f125.body).getD .skip
def yJE:Env:=zki TT [(124,ygA),(150,yv),(217,yF3)] []
theorem ySN:FrOk Tryz.prog ⟨yJE,21,fun _=>none⟩ yJf:=zkp yc yd ⟨ym9,yE,yYJ,trivial⟩
def yUU:Nat→Option Seg:=fun _=>none
abbrev ypg:List Par:= [.pt tU .fz]
abbrev yuX:List OT:= [⟨false,tG,(.pr .fz .fz)⟩]
def ygJ (a0:dU):Option (ResD yuX×MutD ypg) :=
  bnd (ygK a0) fun r1 =>
  bnd (yb r1.2.1 8) fun r2 =>
  bif (r2.1.1==0) then
    bnd (yB r2.2.1 ([0,2,6,(-1)]:List Int)) fun r3 =>
    some (((r3.1.1,r1.1.1.2),()),(r3.2.1,()))
  else
    bif (r2.1.1==1) then
      bnd (yB r2.2.1 ([0,9,(-1)]:List Int)) fun r4 =>
      some (((r1.1.1.1,r4.1.1),()),(r4.2.1,()))
    else
      some ((r1.1.1,()),(r2.2.1,()))
theorem yZp (x:InD ypg):zjH ⟨yJE,21,yUU⟩ Tryz.f125.results.toList yJf ypg yuX x=ygJ x.1:=by kernel_rfl
theorem yWq:ConOk Tryz.prog 125 ⟨ypg,yuX,fun x=>ygJ x.1⟩:=zkh (ySN) Tryz.func125 (by kernel_rfl) (by kernel_rfl) Tryz.ntmps125.symm (by decide) (fun x r h=>(yZp x).trans h)
def yF2:Con:=⟨ypg,yuX,fun x=>ygJ x.1⟩
theorem yYI:ConOk Tryz.prog 125 yF2:=yWq
theorem y1s (u:dU) (h:yG u): ∃ (g:dG) (u':dU),ygJ u=some ((g,()),(u',()))∧yG u':=by
  unfold ygJ
  obtain ⟨g,u1,e1,_,d1⟩:=y2f u h
  obtain ⟨r,u2,e2,_,d2⟩:=yw u1 8 d1
  simp only [e1,e2,zky]
  cases (r==0)
  · cases (r==1)
    · exact ⟨_,_,rfl,d2⟩
    · obtain ⟨r3,u3,e3,_,d3⟩:=ypx u2 [0,9,(-1)] d2 (by simp)
      simp only [cond_true,cond_false,e3,zky]
      exact ⟨_,_,rfl,d3⟩
  · obtain ⟨r3,u3,e3,_,d3⟩:=ypx u2 [0,2,6,(-1)] d2 (by simp)
    simp only [cond_true,e3,zky]
    exact ⟨_,_,rfl,d3⟩
end
section
def yoQ:Code:=(Tryz.f213.body).getD .skip
def yuf:Env:=zki TT [(115,yvc),(150,yv)] []
theorem ySH:FrOk Tryz.prog ⟨yuf,18,fun _=>none⟩ yoQ:=zkp yc yd ⟨yGt,yE,trivial⟩
def yFt:Nat→Option Seg:=fun _=>none
def yda:Shape:=⟨[(0,false,[.ptr 1000000000 0]),(3,false,[.at 800000000]),(4,false,[.int .i64])],[(1000000000,[.fz tY,.int .i64,.int .i64])],[(800000000,tI,.fz)]⟩
def yiQ:Shape:=⟨[(0,false,[.ptr 1000000000 0]),(3,false,[.at 800000000]),(4,false,[.int .i64])],[(1000000000,[.fz tY,.int .i64,.int .i64])],[(800000000,tI,.fz)]⟩
def yiB:Shape:=⟨[(3,false,[.at 800000000])],[(1000000000,[.fz tY,.int .i64,.int .i64])],[(800000000,tI,.fz)]⟩
def yob:Shape:=⟨[],[],[]⟩
abbrev ytm (v0:Int) (v1:dU) (v2:List Int):(yda).X:=((((),()),((),()),(v0,()),()),((v1.1,v1.2.1,v1.2.2,()),()),(v2,()))
abbrev yPE (v0:Int) (v1:dU) (v2:List Int):(yiQ).X:=((((),()),((),()),(v0,()),()),((v1.1,v1.2.1,v1.2.2,()),()),(v2,()))
abbrev yPt (v0:dU) (v1:List Int):(yiB).X:=((((),()),()),((v0.1,v0.2.1,v0.2.2,()),()),(v1,()))
def ytL (v0:Int) (v1:List Int) (v2:Int) (v3:Int) (v4:List Int):Option ((yda).X ⊕ ((yiB).X ⊕ (yob).X)) :=
  bif (ltb 0 v0) then
    bnd (yae (v1,v2,v3)) fun r3 =>
    bif (zj4 v4.length ([r3.1.1]:List Int).length 8) then
      some (.inl ((((),()),((),()),((IntKind.i64.wrap (v0 - 1)),()),()),((r3.2.1.1,r3.2.1.2.1,r3.2.1.2.2,()),()),((v4++([r3.1.1]:List Int)),())))
    else none
  else
    some (.inr (.inl ((((),()),()),((v1,v2,v3,()),()),(v4,()))))
def ydH (x:(yda).X):=ytL x.1.2.2.1.1 x.2.1.1.1 x.2.1.1.2.1 x.2.1.1.2.2.1 x.2.2.1
def yB2 (x:(yiQ).X):(yda).X:=((((),()),((),()),(x.1.2.2.1.1,()),()),((x.2.1.1.1,x.2.1.1.2.1,x.2.1.1.2.2.1,()),()),(x.2.2.1,()))
def yD3:Code:=(zdI yoQ 64 116).getD .skip
theorem yRE:zdI yoQ 64 29=some (.block 0 (.loop yD3)):=by kernel_rfl
theorem yUv (x:(yda).X):zg7 ⟨yuf,18,yFt⟩ 0 yD3 116 yda yiB yob x=ydH x:=by kernel_rfl
def yCi (x:(yiQ).X):Nat:=(fun (u0:Int) (u1:List Int) (u2:Int) (u3:Int) (u4:List Int)=>18446744073709551616) x.1.2.2.1.1 x.2.1.1.1 x.2.1.1.2.1 x.2.1.1.2.2.1 x.2.2.1
def yuu (x:(yiQ).X):Option ((yiB).X ⊕ (yob).X):=zr ydH (yCi x) (yB2 x)
def yCU:Seg:=⟨yiQ,yiB,yob,yuu⟩
def yFu:Nat→Option Seg:=fun q=>bif Nat.beq q 29 then some yCU else yFt q
theorem ySI:FrOk Tryz.prog ⟨yuf,18,yFu⟩ yoQ:=(ySH).loop (sg:=yCU) yda yB2 (by decide) yRE ydH yCi (by decide) (fun _=>rfl) (fun x r _ h=>h) yUv
abbrev ype:List Par:= [.pt tU .fz]
abbrev yuU:List OT:= [⟨false,tL,(.ow .fz)⟩]
def ycJ (a0:dU):Option (ResD yuU×MutD ype) :=
  bnd (yb a0 5) fun r1 =>
  zjw (yuu ((((),()),((),()),(r1.1.1,()),()),((r1.2.1.1,r1.2.1.2.1,r1.2.1.2.2,()),()),(([]:List Int),()))) (fun y3 =>
    some ((y3.2.2.1,()),((y3.2.1.1.1,y3.2.1.1.2.1,y3.2.1.1.2.2.1),()))) (fun y3 =>
    none)
theorem yZm (x:InD ype):zjH ⟨yuf,18,yFu⟩ Tryz.f213.results.toList yoQ ype yuU x=ycJ x.1:=by kernel_rfl
theorem yWn:ConOk Tryz.prog 213 ⟨ype,yuU,fun x=>ycJ x.1⟩:=zkh (ySI) Tryz.func213 (by kernel_rfl) (by kernel_rfl) Tryz.ntmps213.symm (by decide) (fun x r h=>(yZm x).trans h)
def yqy:Con:=⟨ype,yuU,fun x=>ycJ x.1⟩
theorem yyW:ConOk Tryz.prog 213 yqy:=yWn
theorem yW9: ∀ (n:Nat) (u:dU) (l:List Int) (fuel:Nat),n < fuel→yG u→n+l.length≤1000 →
    ∃ (u':dU) (l':List Int),zr ydH fuel (ytm n u l)=some (.inl (yPt u' l'))∧yG u'∧l'.length=n+l.length
  | 0,u,l,fuel+1,_,hu,_=>⟨u,l,by simp only [zr,ydH,ytm,ytL]; rfl,hu,by omega⟩
  | n+1,u,l,fuel+1,hf,hu,hl=>by
    obtain ⟨x,u1,e1,_,d1⟩:=y0j u hu
    obtain ⟨u',l',e2,d2,h2⟩:=yW9 n u1 (l++ [x]) fuel (by omega) d1 (by rw [List.length_append]; simp only [List.length_cons,List.length_nil]; omega)
    refine ⟨u',l',?_,d2,by rw [h2,List.length_append]; simp only [List.length_cons,List.length_nil]; omega⟩
    rw [← e2,zr]
    simp only [ydH,ytm,ytL,zjI (show (0:Int) < ((n+1:Nat):Int) by omega),cond_true,zkV,e1,zky,show ((n+1:Nat):Int) - 1=(n:Int) by omega,wr (show -9223372036854775808≤(n:Int) by omega) (by omega),
      zkw.2 (show (l.length+ [x].length) * 8≤140737488355328 by simp only [List.length_cons,List.length_nil]; omega)]
theorem yOl (u:dU) (h:yG u): ∃ (l:List Int) (u':dU),ycJ u=some ((l,()),(u',()))∧l.length≤4∧yG u':=by
  obtain ⟨r1,u1,e1,q1,d1⟩:=yw u 5 h
  have:=q1.1; have:=q1.2.1 (by omega)
  obtain ⟨u',l',e2,d2,h2⟩:=yW9 r1.toNat u1 [] 18446744073709551616 (by omega) d1 (by simp only [List.length_nil]; omega)
  rw [show ((r1.toNat:Nat):Int)=r1 by omega]at e2
  unfold ycJ
  simp only [e1,zky]
  refine ⟨l',u',?_,by rw [h2]; simp only [List.length_nil]; omega,d2⟩
  exact (congrArg (fun z=>zjw z _ _) (show yuu (yPE r1 u1 [])=_ from e2)).trans rfl
end
section
def yJd:Code:=(Tryz.f212.body).getD .skip
def yJC:Env:=zki TT [(124,ygA),(150,yv),(213,yqy)] []
theorem ySD:FrOk Tryz.prog ⟨yJC,23,fun _=>none⟩ yJd:=zkp yc yd ⟨ym9,yE,yyW,trivial⟩
def yUS:Nat→Option Seg:=fun _=>none
abbrev ypc:List Par:= [.pt tU .fz]
abbrev yuR:List OT:= [⟨false,tL,(.ow .fz)⟩]
def ycI (a0:dU):Option (ResD yuR×MutD ypc) :=
  bnd (ycJ a0) fun r1 =>
  bnd (yb r1.2.1 10) fun r2 =>
  bif (r2.1.1==0) then
    bnd (yB r2.2.1 ([(-1),65536]:List Int)) fun r3 =>
    bif (zj4 r1.1.1.length ([r3.1.1]:List Int).length 8) then
      some (((r1.1.1++([r3.1.1]:List Int)),()),(r3.2.1,()))
    else none
  else
    bif (r2.1.1==1) then
      bnd (yb r2.2.1 2) fun r4 =>
      bif (zkc (IntKind.i64.wrap (12+r4.1.1)) 8) then
        some (((List.replicate ((IntKind.i64.wrap (12+r4.1.1))).toNat (0:Int)),()),(r4.2.1,()))
      else none
    else
      some ((r1.1.1,()),(r2.2.1,()))
theorem yZj (x:InD ypc):zjH ⟨yJC,23,yUS⟩ Tryz.f212.results.toList yJd ypc yuR x=ycI x.1:=by kernel_rfl
theorem yWk:ConOk Tryz.prog 212 ⟨ypc,yuR,fun x=>ycI x.1⟩:=zkh (ySD) Tryz.func212 (by kernel_rfl) (by kernel_rfl) Tryz.ntmps212.symm (by decide) (fun x r h=>(yZj x).trans h)
def ywU:Con:=⟨ypc,yuR,fun x=>ycI x.1⟩
theorem yId:ConOk Tryz.prog 212 ywU:=yWk
theorem yOk (u:dU) (h:yG u): ∃ (l:List Int) (u':dU),ycI u=some ((l,()),(u',()))∧l.length≤14∧yG u':=by
  unfold ycI
  obtain ⟨l,u1,e1,q1,d1⟩:=yOl u h
  obtain ⟨r,u2,e2,q2,d2⟩:=yw u1 10 d1
  simp only [e1,e2,zky]
  cases (r==0)
  · cases (r==1)
    · exact ⟨_,_,rfl,by omega,d2⟩
    · obtain ⟨r3,u3,e3,q3,d3⟩:=yw u2 2 d2
      have:=q3.1; have:=q3.2.1 (by omega)
      have hm:zkc (IntKind.i64.wrap (12+r3)) 8=true:=by rw [wr (by omega) (by omega),zkH]; omega
      simp only [cond_true,cond_false,e3,zky,hm]
      exact ⟨_,_,rfl,by simp only [List.length_replicate]; rw [wr (by omega) (by omega)]; omega,d3⟩
  · obtain ⟨r3,u3,e3,q3,d3⟩:=ypx u2 [(-1),65536] d2 (by simp)
    simp only [cond_true,e3,zky]
    rw [zkw.2 (show (l.length+ [r3].length) * 8≤140737488355328 by simp only [List.length_cons,List.length_nil]; omega)]
    exact ⟨_,_,rfl,by simp only [List.length_append,List.length_cons,List.length_nil]; omega,d3⟩
end
section
def yml:Code:=(Tryz.f266.body).getD .skip
def yr2:Env:=zki TT [(138,yok),(150,yv),(213,yqy),(264,yrk),(265,yrj),(286,yrg)] []
theorem yO0:FrOk Tryz.prog ⟨yr2,43,fun _=>none⟩ yml:=zkp yc yd ⟨yw5,yE,yyW,yCE,yCD,yCA,trivial⟩
def yDq:Nat→Option Seg:=fun _=>none
def yce:Shape:=⟨[(0,false,[.ptr 1000000000 0]),(2,false,[.ptr 0 0]),(3,false,[.ptr 4352 0]),(4,false,[.int .i64])],[(0,[.nil,.nil,.bool,.nil]),(4352,[.at 800000000,.at 800000001,.bool,.at 800000002]),(1000000000,[.fz tY,.int .i64,.int .i64])],[(800000000,tL,.fz),(800000001,tW,(.pr .fz .fz)),(800000002,tI,.fz)]⟩
def yhg:Shape:=⟨[(0,false,[.ptr 1000000000 0]),(2,false,[.ptr 0 0]),(3,false,[.ptr 4352 0]),(4,false,[.int .i64])],[(0,[.nil,.nil,.bool,.nil]),(4352,[.at 800000000,.at 800000001,.bool,.at 800000002]),(1000000000,[.fz tY,.int .i64,.int .i64])],[(800000000,tL,.fz),(800000001,tW,(.pr .fz .fz)),(800000002,tI,.fz)]⟩
def yg4:Shape:=⟨[(2,false,[.ptr 0 0]),(3,false,[.ptr 4352 0])],[(0,[.nil,.nil,.bool,.nil]),(4352,[.at 800000000,.at 800000001,.bool,.at 800000002]),(1000000000,[.fz tY,.int .i64,.int .i64])],[(800000000,tL,.fz),(800000001,tW,(.pr .fz .fz)),(800000002,tI,.fz)]⟩
def ylK:Shape:=⟨[],[],[]⟩
abbrev yga (v0:Int) (v1:dM) (v2:dM) (v3:dU):(yce).X:=((((),()),((),()),((),()),(v0,()),()),(((),(),v1.2.2.1,(),()),((),(),v2.2.2.1,(),()),(v3.1,v3.2.1,v3.2.2,()),()),(v2.1,v2.2.1,v2.2.2.2,()))
abbrev yMO (v0:Int) (v1:dM) (v2:dM) (v3:dU):(yhg).X:=((((),()),((),()),((),()),(v0,()),()),(((),(),v1.2.2.1,(),()),((),(),v2.2.2.1,(),()),(v3.1,v3.2.1,v3.2.2,()),()),(v2.1,v2.2.1,v2.2.2.2,()))
abbrev yME (v0:dM) (v1:dM) (v2:dU):(yg4).X:=((((),()),((),()),()),(((),(),v0.2.2.1,(),()),((),(),v1.2.2.1,(),()),(v2.1,v2.2.1,v2.2.2,()),()),(v1.1,v1.2.1,v1.2.2.2,()))
def yrH (v0:Int) (v1:Bool) (v2:Bool) (v3:List Int) (v4:Int) (v5:Int) (v6:List (List Int)) (v7:List dW) (v8:List Int):Option ((yce).X ⊕ ((yg4).X ⊕ (ylK).X)) :=
  bif (ltb 0 v0) then
    bnd (yb (v3,v4,v5) 6) fun r11 =>
    bif (r11.1.1==0) then
      let r12:=ydl (v6,v7,v2,v8)
      some (.inl ((((),()),((),()),((),()),((IntKind.i64.wrap (v0 - 1)),()),()),(((),(),v1,(),()),((),(),r12.2.2.1,(),()),(r11.2.1.1,r11.2.1.2.1,r11.2.1.2.2,()),()),(r12.1,r12.2.1,r12.2.2.2,())))
    else
      bif (r11.1.1==1) then
        bnd (yb r11.2.1 (v6.length:Int)) fun r13 =>
        let r14:=yfr (v6,v7,v2,v8) r13.1.1
        some (.inl ((((),()),((),()),((),()),((IntKind.i64.wrap (v0 - 1)),()),()),(((),(),v1,(),()),((),(),r14.2.2.1,(),()),(r13.2.1.1,r13.2.1.2.1,r13.2.1.2.2,()),()),(r14.1,r14.2.1,r14.2.2.2,())))
      else
        bnd (yb r11.2.1 (v6.length:Int)) fun r15 =>
        bnd (ycJ r15.2.1) fun r16 =>
        let r17:=ydn (v6,v7,v2,v8) r15.1.1 r16.1.1
        some (.inl ((((),()),((),()),((),()),((IntKind.i64.wrap (v0 - 1)),()),()),(((),(),v1,(),()),((),(),r17.1.2.2.1,(),()),(r16.2.1.1,r16.2.1.2.1,r16.2.1.2.2,()),()),(r17.1.1,r17.1.2.1,r17.1.2.2.2,())))
  else
    some (.inr (.inl ((((),()),((),()),()),(((),(),v1,(),()),((),(),v2,(),()),(v3,v4,v5,()),()),(v6,v7,v8,()))))
def ybi (x:(yce).X):=yrH x.1.2.2.2.1.1 x.2.1.1.2.2.1 x.2.1.2.1.2.2.1 x.2.1.2.2.1.1 x.2.1.2.2.1.2.1 x.2.1.2.2.1.2.2.1 x.2.2.1 x.2.2.2.1 x.2.2.2.2.1
def yzX (x:(yhg).X):(yce).X:=((((),()),((),()),((),()),(x.1.2.2.2.1.1,()),()),(((),(),x.2.1.1.2.2.1,(),()),((),(),x.2.1.2.1.2.2.1,(),()),(x.2.1.2.2.1.1,x.2.1.2.2.1.2.1,x.2.1.2.2.1.2.2.1,()),()),(x.2.2.1,x.2.2.2.1,x.2.2.2.2.1,()))
def yBA:Code:=(zdI yml 64 116).getD .skip
theorem yOa:zdI yml 64 29=some (.block 0 (.loop yBA)):=by kernel_rfl
theorem yQT (x:(yce).X):zg7 ⟨yr2,43,yDq⟩ 0 yBA 116 yce yg4 ylK x=ybi x:=by kernel_rfl
def yz9 (x:(yhg).X):Nat:=(fun (u0:Int) (u1:Bool) (u2:Bool) (u3:List Int) (u4:Int) (u5:Int) (u6:List (List Int)) (u7:List dW) (u8:List Int)=>18446744073709551616) x.1.2.2.2.1.1 x.2.1.1.2.2.1 x.2.1.2.1.2.2.1 x.2.1.2.2.1.1 x.2.1.2.2.1.2.1 x.2.1.2.2.1.2.2.1 x.2.2.1 x.2.2.2.1 x.2.2.2.2.1
def ysZ (x:(yhg).X):Option ((yg4).X ⊕ (ylK).X):=zr ybi (yz9 x) (yzX x)
def yAv:Seg:=⟨yhg,yg4,ylK,ysZ⟩
def yDr:Nat→Option Seg:=fun q=>bif Nat.beq q 29 then some yAv else yDq q
theorem yO1:FrOk Tryz.prog ⟨yr2,43,yDr⟩ yml:=(yO0).loop (sg:=yAv) yce yzX (by decide) yOa ybi yz9 (by decide) (fun _=>rfl) (fun x r _ h=>h) yQT
abbrev ymI:List Par:= [.pt tU .fz]
abbrev ysx:List OT:= [⟨false,tM,(.pr (.ow .fz) (.pr (.ow (.pr .fz .fz)) (.pr .fz (.ow .fz))))⟩]
def yft (a0:dU):Option (ResD ysx×MutD ymI) :=
  bnd (yb a0 5) fun r1 =>
  let r2:=ybk (IntKind.i64.wrap (3+r1.1.1))
  bnd (yb r1.2.1 8) fun r3 =>
  zjw (ysZ ((((),()),((),()),((),()),(r3.1.1,()),()),(((),(),false,(),()),((),(),r2.2.2.1,(),()),(r3.2.1.1,r3.2.1.2.1,r3.2.1.2.2,()),()),(r2.1,r2.2.1,r2.2.2.2,()))) (fun y17 =>
    some (((y17.2.2.1,y17.2.2.2.1,y17.2.1.2.1.2.2.1,y17.2.2.2.2.1),()),((y17.2.1.2.2.1.1,y17.2.1.2.2.1.2.1,y17.2.1.2.2.1.2.2.1),()))) (fun y17 =>
    none)
theorem yXV (x:InD ymI):zjH ⟨yr2,43,yDr⟩ Tryz.f266.results.toList yml ymI ysx x=yft x.1:=by kernel_rfl
theorem yTU:ConOk Tryz.prog 266 ⟨ymI,ysx,fun x=>yft x.1⟩:=zkh (yO1) Tryz.func266 (by kernel_rfl) (by kernel_rfl) Tryz.ntmps266.symm (by decide) (fun x r h=>(yXV x).trans h)
def yEk:Con:=⟨ymI,ysx,fun x=>yft x.1⟩
theorem yWL:ConOk Tryz.prog 266 yEk:=yTU
theorem yXb: ∀ (n:Nat) (m:dM) (u:dU) (fuel:Nat),n < fuel→n≤1000→yG u→yp m=true →
    ∃ (m':dM) (u':dU),zr ybi fuel (yga n ye m u)=some (.inl (yME ye m' u'))∧yG u'∧yp m'=true
  | 0,m,u,fuel+1,_,_,hu,h=>⟨m,u,by simp only [zr,ybi,yga,yrH]; rfl,hu,h⟩
  | n+1,m,u,fuel+1,hf,hn,hu,h=>by
    have hlen:=(yao h).2.2.2
    have key: ∃ (m1:dM) (u1:dU),ybi (yga ((n+1:Nat):Int) ye m u)=some (.inl (yga (n:Int) ye m1 u1))∧yG u1∧yp m1=true:=by
      obtain ⟨r,u1,e1,_,d1⟩:=yw u 6 hu
      simp only [ybi,yga,yrH,zjI (show (0:Int) < ((n+1:Nat):Int) by omega),cond_true,zkV,e1,zky,show ((n+1:Nat):Int) - 1=(n:Int) by omega,wr (show -9223372036854775808≤(n:Int) by omega) (by omega)]
      cases (r==0)
      · obtain ⟨i,u2,e2,q2,d2⟩:=yw u1 (m.1.length:Int) d1
        cases (r==1)
        · obtain ⟨s,u3,e3,_,d3⟩:=yOl u2 d2
          simp only [cond_false,e2,zky,e3,ydn]
          exact ⟨(yfH m i s).1,u3,rfl,d3,yQZ i s h⟩
        · simp only [cond_false,cond_true,e2,zky,yfr]
          exact ⟨yxr m i,u2,rfl,d2,yZR i h⟩
      · simp only [cond_true,ydl]
        exact ⟨yeo m,u1,rfl,d1,yOv h⟩
    obtain ⟨m1,u1,e1,d1,h1⟩:=key
    obtain ⟨m',u',e2,d2,h2⟩:=yXb n m1 u1 fuel (by omega) (by omega) d1 h1
    exact ⟨m',u',by rw [← e2,zr,e1],d2,h2⟩
theorem y0W (u:dU) (h:yG u): ∃ (m:dM) (u':dU),yft u=some ((m,()),(u',()))∧yp m=true∧yG u':=by
  obtain ⟨r1,u1,e1,q1,d1⟩:=yw u 5 h
  obtain ⟨r3,u3,e3,q3,d3⟩:=yw u1 8 d1
  have:=q1.1; have:=q1.2.1 (by omega); have:=q3.1; have:=q3.2.1 (by omega)
  obtain ⟨m',u',e4,d4,h4⟩:=yXb r3.toNat (ybZ (3+r1)) u3 18446744073709551616 (by omega) (by omega) d3 (yEy (by omega) (by omega))
  rw [show ((r3.toNat:Nat):Int)=r3 by omega]at e4
  unfold yft
  simp only [e1,e3,zky,wr (show -9223372036854775808≤3+r1 by omega) (by omega),ybk]
  refine ⟨m',u',?_,h4,d4⟩
  exact (congrArg (fun z=>zjw z _ _) (show ysZ (yMO r3 ye (ybZ (3+r1)) u3)=_ from e4)).trans rfl
end
end
end Go.Tf
