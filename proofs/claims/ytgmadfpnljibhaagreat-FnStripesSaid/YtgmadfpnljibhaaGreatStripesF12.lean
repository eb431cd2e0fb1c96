/- Functions of the program, and what they come to. -/
import Derived.Test.YtgmadfpnljibhaaGreatStripesF11
namespace Go.Tf
noncomputable section
open Go.Proofs
set_option synthInstance.maxHeartbeats 400000
set_option synthInstance.maxSize 10000
set_option linter.unusedVariables false
set_option linter.unusedSimpArgs false
set_option maxRecDepth 100000
section
def ymF:Code:=(Tryz.f113.body).getD .skip
def yr8:Env:=zki TT [(49,yEe),(150,yew),(209,yGc),(210,yEr)] []
theorem yPj:FrOk Tryz.prog ⟨yr8,24,fun _=>none⟩ ymF:=zkp yb yd ⟨yWM,yjp,yY2,yWZ,trivial⟩
def yDv:Nat→Option Seg:=fun _=>none
def ycq:Shape:=⟨[(0,false,[.ptr 1000000000 0]),(4,false,[.ptr 0 0]),(5,false,[.ptr 4480 0]),(6,false,[.int .i64])],[(0,[.int .i64,.int .i64,.int .i64,.nil,.int .i64,.int .i64,.int .i64,.int .i64,.int .i64,.nil,.int .i64,.bool,.bool]),(4480,[.int .i64,.int .i64,.int .i64,.at 800000000,.int .i64,.int .i64,.int .i64,.int .i64,.int .i64,.at 800000001,.int .i64,.bool,.bool]),(1000000000,[.fz tY,.int .i64,.int .i64])],[(800000000,tM,(.pr (.ow .fz) (.pr (.ow (.pr .fz .fz)) (.pr .fz (.ow .fz))))),(800000001,tW,(.pr .fz .fz))]⟩
def yhm:Shape:=⟨[(0,false,[.ptr 1000000000 0]),(4,false,[.ptr 0 0]),(5,false,[.ptr 4480 0]),(6,false,[.int .i64])],[(0,[.int .i64,.int .i64,.int .i64,.nil,.int .i64,.int .i64,.int .i64,.int .i64,.int .i64,.nil,.int .i64,.bool,.bool]),(4480,[.int .i64,.int .i64,.int .i64,.at 800000000,.int .i64,.int .i64,.int .i64,.int .i64,.int .i64,.at 800000001,.int .i64,.bool,.bool]),(1000000000,[.fz tY,.int .i64,.int .i64])],[(800000000,tM,(.pr (.ow .fz) (.pr (.ow (.pr .fz .fz)) (.pr .fz (.ow .fz))))),(800000001,tW,(.pr .fz .fz))]⟩
def yhb:Shape:=⟨[(4,false,[.ptr 0 0]),(5,false,[.ptr 4480 0])],[(0,[.int .i64,.int .i64,.int .i64,.nil,.int .i64,.int .i64,.int .i64,.int .i64,.int .i64,.nil,.int .i64,.bool,.bool]),(4480,[.int .i64,.int .i64,.int .i64,.at 800000000,.int .i64,.int .i64,.int .i64,.int .i64,.int .i64,.at 800000001,.int .i64,.bool,.bool]),(1000000000,[.fz tY,.int .i64,.int .i64])],[(800000000,tM,(.pr (.ow .fz) (.pr (.ow (.pr .fz .fz)) (.pr .fz (.ow .fz))))),(800000001,tW,(.pr .fz .fz))]⟩
def yl4:Shape:=⟨[],[],[]⟩
abbrev yrv (v0:Int) (v1 v2:dA) (v3:dU):(ycq).X:=((((),()),((),()),((),()),(v0,()),()),((v1.1,v1.2.1.1,v1.2.1.2,(),v1.2.2.2.1,v1.2.2.2.2.1,v1.2.2.2.2.2.1,v1.2.2.2.2.2.2.1,v1.2.2.2.2.2.2.2.1,(),v1.2.2.2.2.2.2.2.2.2.1,v1.2.2.2.2.2.2.2.2.2.2.1,v1.2.2.2.2.2.2.2.2.2.2.2,()),(v2.1,v2.2.1.1,v2.2.1.2,(),v2.2.2.2.1,v2.2.2.2.2.1,v2.2.2.2.2.2.1,v2.2.2.2.2.2.2.1,v2.2.2.2.2.2.2.2.1,(),v2.2.2.2.2.2.2.2.2.2.1,v2.2.2.2.2.2.2.2.2.2.2.1,v2.2.2.2.2.2.2.2.2.2.2.2,()),(v3.1,v3.2.1,v3.2.2,()),()),(v2.2.2.1,v2.2.2.2.2.2.2.2.2.1,()))
abbrev yM2 (v0:Int) (v1 v2:dA) (v3:dU):(yhm).X:=((((),()),((),()),((),()),(v0,()),()),((v1.1,v1.2.1.1,v1.2.1.2,(),v1.2.2.2.1,v1.2.2.2.2.1,v1.2.2.2.2.2.1,v1.2.2.2.2.2.2.1,v1.2.2.2.2.2.2.2.1,(),v1.2.2.2.2.2.2.2.2.2.1,v1.2.2.2.2.2.2.2.2.2.2.1,v1.2.2.2.2.2.2.2.2.2.2.2,()),(v2.1,v2.2.1.1,v2.2.1.2,(),v2.2.2.2.1,v2.2.2.2.2.1,v2.2.2.2.2.2.1,v2.2.2.2.2.2.2.1,v2.2.2.2.2.2.2.2.1,(),v2.2.2.2.2.2.2.2.2.2.1,v2.2.2.2.2.2.2.2.2.2.2.1,v2.2.2.2.2.2.2.2.2.2.2.2,()),(v3.1,v3.2.1,v3.2.2,()),()),(v2.2.2.1,v2.2.2.2.2.2.2.2.2.1,()))
abbrev yMT (v0 v1:dA) (v2:dU):(yhb).X:=((((),()),((),()),()),((v0.1,v0.2.1.1,v0.2.1.2,(),v0.2.2.2.1,v0.2.2.2.2.1,v0.2.2.2.2.2.1,v0.2.2.2.2.2.2.1,v0.2.2.2.2.2.2.2.1,(),v0.2.2.2.2.2.2.2.2.2.1,v0.2.2.2.2.2.2.2.2.2.2.1,v0.2.2.2.2.2.2.2.2.2.2.2,()),(v1.1,v1.2.1.1,v1.2.1.2,(),v1.2.2.2.1,v1.2.2.2.2.1,v1.2.2.2.2.2.1,v1.2.2.2.2.2.2.1,v1.2.2.2.2.2.2.2.1,(),v1.2.2.2.2.2.2.2.2.2.1,v1.2.2.2.2.2.2.2.2.2.2.1,v1.2.2.2.2.2.2.2.2.2.2.2,()),(v2.1,v2.2.1,v2.2.2,()),()),(v1.2.2.1,v1.2.2.2.2.2.2.2.2.1,()))
def yrL (v0 v1 v2 v3 v4 v5 v6 v7 v8 v9:Int) (v10 v11:Bool) (v12 v13 v14 v15 v16 v17 v18 v19 v20:Int) (v21 v22:Bool) (v23:List Int) (v24 v25:Int) (v26:List dM) (v27:List dW):Option ((ycq).X ⊕ ((yhb).X ⊕ (yl4).X)) :=
 bif (ltb 0 v0) then
 bnd (yfz (v23,v24,v25) (v12,(v13,v14),v26,v15,v16,v17,v18,v19,v27,v20,v21,v22)) fun r6 =>
 some (.inl ((((),()),((),()),((),()),((IntKind.i64.wrap (v0 - 1)),()),()),((v1,v2,v3,(),v4,v5,v6,v7,v8,(),v9,v10,v11,()),(r6.2.2.1.1,r6.2.2.1.2.1.1,r6.2.2.1.2.1.2,(),r6.2.2.1.2.2.2.1,r6.2.2.1.2.2.2.2.1,r6.2.2.1.2.2.2.2.2.1,r6.2.2.1.2.2.2.2.2.2.1,r6.2.2.1.2.2.2.2.2.2.2.1,(),r6.2.2.1.2.2.2.2.2.2.2.2.2.1,r6.2.2.1.2.2.2.2.2.2.2.2.2.2.1,r6.2.2.1.2.2.2.2.2.2.2.2.2.2.2,()),(r6.2.1.1,r6.2.1.2.1,r6.2.1.2.2,()),()),(r6.2.2.1.2.2.1,r6.2.2.1.2.2.2.2.2.2.2.2.1,())))
 else
 some (.inr (.inl ((((),()),((),()),()),((v1,v2,v3,(),v4,v5,v6,v7,v8,(),v9,v10,v11,()),(v12,v13,v14,(),v15,v16,v17,v18,v19,(),v20,v21,v22,()),(v23,v24,v25,()),()),(v26,v27,()))))
def ycW (x:(ycq).X):=yrL x.1.2.2.2.1.1 x.2.1.1.1 x.2.1.1.2.1 x.2.1.1.2.2.1 x.2.1.1.2.2.2.2.1 x.2.1.1.2.2.2.2.2.1 x.2.1.1.2.2.2.2.2.2.1 x.2.1.1.2.2.2.2.2.2.2.1 x.2.1.1.2.2.2.2.2.2.2.2.1 x.2.1.1.2.2.2.2.2.2.2.2.2.2.1 x.2.1.1.2.2.2.2.2.2.2.2.2.2.2.1 x.2.1.1.2.2.2.2.2.2.2.2.2.2.2.2.1 x.2.1.2.1.1 x.2.1.2.1.2.1 x.2.1.2.1.2.2.1 x.2.1.2.1.2.2.2.2.1 x.2.1.2.1.2.2.2.2.2.1 x.2.1.2.1.2.2.2.2.2.2.1 x.2.1.2.1.2.2.2.2.2.2.2.1 x.2.1.2.1.2.2.2.2.2.2.2.2.1 x.2.1.2.1.2.2.2.2.2.2.2.2.2.2.1 x.2.1.2.1.2.2.2.2.2.2.2.2.2.2.2.1 x.2.1.2.1.2.2.2.2.2.2.2.2.2.2.2.2.1 x.2.1.2.2.1.1 x.2.1.2.2.1.2.1 x.2.1.2.2.1.2.2.1 x.2.2.1 x.2.2.2.1
def yz7 (x:(yhm).X):(ycq).X:=((((),()),((),()),((),()),(x.1.2.2.2.1.1,()),()),((x.2.1.1.1,x.2.1.1.2.1,x.2.1.1.2.2.1,(),x.2.1.1.2.2.2.2.1,x.2.1.1.2.2.2.2.2.1,x.2.1.1.2.2.2.2.2.2.1,x.2.1.1.2.2.2.2.2.2.2.1,x.2.1.1.2.2.2.2.2.2.2.2.1,(),x.2.1.1.2.2.2.2.2.2.2.2.2.2.1,x.2.1.1.2.2.2.2.2.2.2.2.2.2.2.1,x.2.1.1.2.2.2.2.2.2.2.2.2.2.2.2.1,()),(x.2.1.2.1.1,x.2.1.2.1.2.1,x.2.1.2.1.2.2.1,(),x.2.1.2.1.2.2.2.2.1,x.2.1.2.1.2.2.2.2.2.1,x.2.1.2.1.2.2.2.2.2.2.1,x.2.1.2.1.2.2.2.2.2.2.2.1,x.2.1.2.1.2.2.2.2.2.2.2.2.1,(),x.2.1.2.1.2.2.2.2.2.2.2.2.2.2.1,x.2.1.2.1.2.2.2.2.2.2.2.2.2.2.2.1,x.2.1.2.1.2.2.2.2.2.2.2.2.2.2.2.2.1,()),(x.2.1.2.2.1.1,x.2.1.2.2.1.2.1,x.2.1.2.2.1.2.2.1,()),()),(x.2.2.1,x.2.2.2.1,()))
def yBx:Code:=(zdI ymF 64 116).getD .skip
theorem yOv:zdI ymF 64 29=some (.block 0 (.loop yBx)):=by kernel_rfl
theorem yRb (x:(ycq).X):zg7 ⟨yr8,24,yDv⟩ 0 yBx 116 ycq yhb yl4 x=ycW x:=by kernel_rfl
def yAi (x:(yhm).X):Nat:=18446744073709551616
def ys4 (x:(yhm).X):Option ((yhb).X ⊕ (yl4).X):=zr ycW (yAi x) (yz7 x)
def yAz:Seg:=⟨yhm,yhb,yl4,ys4⟩
def yDw:Nat→Option Seg:=fun q=>bif Nat.beq q 29 then some yAz else yDv q
theorem yPk:FrOk Tryz.prog ⟨yr8,24,yDw⟩ ymF:=(yPj).loop (sg:=yAz) ycq yz7 (by decide) yOv ycW yAi (by decide) (fun _=>rfl) (fun x r _ h=>h) yRb
abbrev ym1:List Par:= [.pt tU .fz,.rd tI]
abbrev ysF:List OT:= [⟨false,tA,(.pr .fz (.pr (.pr .fz .fz) (.pr (.ow (.pr (.ow .fz) (.pr (.ow (.pr .fz .fz)) (.pr .fz (.ow .fz))))) (.pr .fz (.pr .fz (.pr .fz (.pr .fz (.pr .fz (.pr (.ow (.pr .fz .fz)) (.pr .fz (.pr .fz .fz)))))))))))⟩]
def ydx (a0:dU) (a1:Int):Option (ResD ysF×MutD ym1) :=
 bnd (yg a0 2) fun r1 =>
 bnd (ygS r1.2.1) fun r2 =>
 let r3:=yng (IntKind.i64.wrap (1+r1.1.1)) r2.1.1
 bnd (yg r2.2.1 (IntKind.i64.wrap (a1+1))) fun r4 =>
 zjw (ys4 ((((),()),((),()),((),()),(r4.1.1,()),()),((0,0,0,(),0,0,0,0,0,(),0,false,false,()),(r3.1,r3.2.1.1,r3.2.1.2,(),r3.2.2.2.1,r3.2.2.2.2.1,r3.2.2.2.2.2.1,r3.2.2.2.2.2.2.1,r3.2.2.2.2.2.2.2.1,(),r3.2.2.2.2.2.2.2.2.2.1,r3.2.2.2.2.2.2.2.2.2.2.1,r3.2.2.2.2.2.2.2.2.2.2.2,()),(r4.2.1.1,r4.2.1.2.1,r4.2.1.2.2,()),()),(r3.2.2.1,r3.2.2.2.2.2.2.2.2.1,()))) (fun y6 =>
 some (((y6.2.1.2.1.1,(y6.2.1.2.1.2.1,y6.2.1.2.1.2.2.1),y6.2.2.1,y6.2.1.2.1.2.2.2.2.1,y6.2.1.2.1.2.2.2.2.2.1,y6.2.1.2.1.2.2.2.2.2.2.1,y6.2.1.2.1.2.2.2.2.2.2.2.1,y6.2.1.2.1.2.2.2.2.2.2.2.2.1,y6.2.2.2.1,y6.2.1.2.1.2.2.2.2.2.2.2.2.2.2.1,y6.2.1.2.1.2.2.2.2.2.2.2.2.2.2.2.1,y6.2.1.2.1.2.2.2.2.2.2.2.2.2.2.2.2.1),()),((y6.2.1.2.2.1.1,y6.2.1.2.2.1.2.1,y6.2.1.2.2.1.2.2.1),()))) (fun y6 =>
 none)
theorem yYj (x:InD ym1):zjH ⟨yr8,24,yDw⟩ Tryz.f113.results.toList ymF ym1 ysF x=ydx x.1 x.2.1:=by kernel_rfl
theorem yT9:ConOk Tryz.prog 113 ⟨ym1,ysF,fun x=>ydx x.1 x.2.1⟩:=zkh (yPk) Tryz.func113 (by kernel_rfl) (by kernel_rfl) Tryz.ntmps113.symm (by decide) (fun x r h=>(yYj x).trans h)
def yEp:Con:=⟨ym1,ysF,fun x=>ydx x.1 x.2.1⟩
theorem yWX:ConOk Tryz.prog 113 yEp:=yT9
theorem yXm {P:Int→dA→Prop} {K:Int} (hP: ∀ k a,P k a→coreOk a∧Keep a) (hT: ∀ k a b,P k a→Turned a b→k+16≤K→P (k+16) b): ∀ (n:Nat) (k:Int) (a:dA) (u:dU) (fuel:Nat),n < fuel→n≤1000→yd3 u→P k a→k+16 * n≤K →
  ∃ (a':dA) (u':dU),zr ycW fuel (yrv n ydv a u)=some (.inl (yMT ydv a' u'))∧yd3 u'∧P (k+16 * n) a'
 | 0,k,a,u,fuel+1,_,_,hu,h,_=>⟨a,u,by simp only [zr,ycW,yrv,yrL]; rfl,hu,by rw [show k+16 * ((0:Nat):Int)=k by omega]; exact h⟩
 | n+1,k,a,u,fuel+1,hf,hn,hu,h,hk=>by
  obtain ⟨hc,hkp⟩:=hP k a h
  obtain ⟨u1,a1,e1,d1,h1⟩:=y2L u a hu hc hkp
  obtain ⟨a',u',e2,d2,h2⟩:=yXm hP hT n (k+16) a1 u1 fuel (by omega) (by omega) d1 (hT k a a1 h h1 (by omega)) (by omega)
  refine ⟨a',u',?_,d2,by rw [show k+16 * ((n+1:Nat):Int)=k+16+16 * (n:Int) by omega]; exact h2⟩
  rw [← e2,zr]
  simp only [ycW,yrv,yrL,zjI (show (0:Int) < ((n+1:Nat):Int) by omega),cond_true,zkV,e1,zky,show ((n+1:Nat):Int) - 1=(n:Int) by omega,wr (show -9223372036854775808≤(n:Int) by omega) (by omega)]
theorem yR4 {P:Int→dA→Prop} {K:Int} (hP: ∀ k a,P k a→coreOk a∧Keep a) (hT: ∀ k a b,P k a→Turned a b→k+16≤K→P (k+16) b) (h0P: ∀ id g,yc g=true→1≤id→id≤60000→P 0 (ym8 id g))
  (u:dU) (most:Int) (h:yd3 u) (h0:0≤most) (h1:most≤1000) (hm:16 * most≤K): ∃ (a:dA) (u':dU) (k:Int),ydx u most=some ((a,()),(u',()))∧P k a∧k≤16 * most∧yd3 u':=by
 obtain ⟨r1,u1,e1,q1,d1⟩:=yfF u 2 h
 obtain ⟨g,u2,e2,q2,d2⟩:=y2e u1 d1
 obtain ⟨r3,u3,e3,q3,d3⟩:=yfF u2 (most+1) d2
 have:=q1.1; have:=q1.2.1 (by omega); have:=q3.1; have:=q3.2.1 (by omega)
 have hn:=h0P (1+r1) g q2 (by omega) (by omega)
 obtain ⟨a',u',e4,d4,h4⟩:=yXm hP hT r3.toNat 0 (ym8 (1+r1) g) u3 18446744073709551616 (by omega) (by omega) d3 hn (by omega)
 rw [show ((r3.toNat:Nat):Int)=r3 by omega]at e4
 unfold ydx
 simp only [e1,e2,zky,wr (show -9223372036854775808≤most+1 by omega) (by omega),e3,wr (show -9223372036854775808≤1+r1 by omega) (by omega),yng]
 refine ⟨a',u',_,?_,h4,by omega,d4⟩
 exact (congrArg (fun z=>zjw z _ _) (show ys4 (yM2 r3 ydv (ym8 (1+r1) g) u3)=_ from e4)).trans rfl
theorem y3N (u:dU) (most:Int) (h:yd3 u) (h0:0≤most) (h1:most≤1000): ∃ (a:dA) (u':dU),ydx u most=some ((a,()),(u',()))∧Wk 16000 a∧yd3 u':=by
 obtain ⟨a,u',k,e,q,hk,d⟩:=yR4 (P:=fun k a=>Wk k a∧k≤16000) (K:=16000) (fun k a h=>⟨h.1.1,h.1.2.1⟩) (fun k a b h ht hk=>⟨yb5 (yXI h.1 ht (by omega)) (by omega),by omega⟩) (fun id g h1 h2 h3=>⟨y0o h1 h2 h3,by omega⟩) u most h h0 h1 (by omega)
 exact ⟨a,u',e,yb5 q.1 (by omega),d⟩
end
section
def yFc:Code:=(Tryz.f26.body).getD .skip
def yFO:Env:=zki TT [(94,yGb),(96,yEl),(113,yEp)] []
theorem yMx:FrOk Tryz.prog ⟨yFO,11,fun _=>none⟩ yFc:=zkp yb yd ⟨yY1,yWT,yWX,trivial⟩
def yOc:Nat→Option Seg:=fun _=>none
abbrev ykM:List Par:= [.kp tYs .fz]
abbrev yqw:List OT:= [⟨false,tA,(.pr .fz (.pr (.pr .fz .fz) (.pr (.ow (.pr (.ow .fz) (.pr (.ow (.pr .fz .fz)) (.pr .fz (.ow .fz))))) (.pr .fz (.pr .fz (.pr .fz (.pr .fz (.pr .fz (.pr (.ow (.pr .fz .fz)) (.pr .fz (.pr .fz .fz)))))))))))⟩]
def yeE (a0:List Int):Option (ResD yqw×MutD ykM) :=
 let r1:=yls a0
 let r2:=yd1 a0 24
 bnd (ydx r1 (IntKind.i64.wrap (6+r2))) fun r3 =>
 some ((r3.1.1,()),())
theorem yVo (x:InD ykM):zjH ⟨yFO,11,yOc⟩ Tryz.f26.results.toList yFc ykM yqw x=yeE x.1:=by kernel_rfl
theorem yQA:ConOk Tryz.prog 26 ⟨ykM,yqw,fun x=>yeE x.1⟩:=zkh (yMx) Tryz.func26 (by kernel_rfl) (by kernel_rfl) Tryz.ntmps26.symm (by decide) (fun x r h=>(yVo x).trans h)
def yBI:Con:=⟨ykM,yqw,fun x=>yeE x.1⟩
theorem yUq:ConOk Tryz.prog 26 yBI:=yQA
theorem y08 (a0:List Int) (hb:a0.length≤140737488355328): ∃ (a:dA) (V:Int→Int→Int),yeE a0=some ((a,()),())∧Wk 480 a∧Ix 480 V a:=by
 obtain ⟨h1,h2⟩:=y2K a0 24 (by omega) hb
 obtain ⟨a,u',k,e,⟨q1,V,q2⟩,hk,d⟩:=yR4 (P:=fun k a=>Wk k a∧ ∃ V,Ix k V a) (K:=480) (fun k a h=>⟨h.1.1,h.1.2.1⟩)
  (fun k a b h ht hk=>by
   obtain ⟨hw,V,hi⟩:=h
   have hw':=yXI hw ht (by omega)
   exact ⟨yb5 hw' (by omega),y1H hi ht (by omega) hw'.2.2.1.1⟩) (fun id g g1 g2 g3=>⟨y0o g1 g2 g3,_,y3e g1 g2 g3⟩) _ (6+yd1 a0 24) (y3b a0 hb) (by omega) (by omega) (by omega)
 refine ⟨a,V,?_,yb5 q1 (by omega),yey q2 (by omega)⟩
 unfold yeE
 simp only [wr (show -9223372036854775808≤6+yd1 a0 24 by omega) (by omega),e,zky]
end
section
def yHI:Code:=(Tryz.f126.body).getD .skip
def yIe:Env:=zki TT [] []
theorem yOT:FrOk Tryz.prog ⟨yIe,15,fun _=>none⟩ yHI:=zkp yb yd trivial
def yRs:Nat→Option Seg:=fun _=>none
abbrev ymS:List Par:= [.rd tI,.rd tI,.rd tI]
abbrev ysp:List OT:= [⟨false,tB,.fz⟩]
def yvX (a0 a1 a2:Int):Option (ResD ysp×MutD ymS) :=
 bif (leb a1 a0) then
 some (((leb a0 a2),()),())
 else
 some ((false,()),())
theorem yX1 (x:InD ymS):zjH ⟨yIe,15,yRs⟩ Tryz.f126.results.toList yHI ymS ysp x=yvX x.1 x.2.1 x.2.2.1:=by kernel_rfl
theorem yTR:ConOk Tryz.prog 126 ⟨ymS,ysp,fun x=>yvX x.1 x.2.1 x.2.2.1⟩:=zkh (yOT) Tryz.func126 (by kernel_rfl) (by kernel_rfl) Tryz.ntmps126.symm (by decide) (fun x r h=>(yX1 x).trans h)
def yf (a0 a1 a2:Int):Bool :=
 bif (leb a1 a0) then
 (leb a0 a2)
 else
 false
def yJ:Con:=⟨ymS,ysp,fun x=>(fun n=>some ((n,()),())) (yf x.1 x.2.1 x.2.2.1)⟩
theorem yVX (a0 a1 a2:Int):yvX a0 a1 a2=(fun n=>some ((n,()),())) (yf a0 a1 a2):=zkS (p:=fun (n:Bool)=>((n,()),())) (zkx (p:=fun (n:Bool)=>((n,()),())) rfl rfl)
theorem yT:ConOk Tryz.prog 126 yJ:=(yTR).mono (fun x r _ h=>(yVX x.1 x.2.1 x.2.2.1).trans h)
theorem yai (a b c:Int):yf a b c=ya a b c:=by kernel_rfl
end
section
def yHA:Code:=(Tryz.f47.body).getD .skip
def yH6:Env:=zki TT [(126,yJ)] []
theorem yOL:FrOk Tryz.prog ⟨yH6,34,fun _=>none⟩ yHA:=zkp yb yd ⟨yT,trivial⟩
def yRk:Nat→Option Seg:=fun _=>none
abbrev yhR:List Par:= [.rd tA,.rd tI,.rd tI]
abbrev ysh:List OT:= [⟨false,tB,.fz⟩]
def yoJ (a0:dA) (a1 a2:Int):Option (ResD ysh×MutD yhR) :=
 let r1:=yf a1 0 (IntKind.i64.wrap ((a0.2.2.1.length:Int) - 1))
 bif r1 then
 bif (inb a1 a0.2.2.1.length) then
 bif (!((((nth a0.2.2.1 a1 ([],[],false,[])).2).2).1)) then
 bif (!(a0.2.2.2.1 !=a1)) then
 some (((ltb a2 a0.2.2.2.2.1),()),())
 else
 some ((true,()),())
 else
 some ((false,()),())
 else none
 else
 some ((false,()),())
theorem yXT (x:InD yhR):zjH ⟨yH6,34,yRk⟩ Tryz.f47.results.toList yHA yhR ysh x=yoJ x.1 x.2.1 x.2.2.1:=by kernel_rfl
theorem yTJ:ConOk Tryz.prog 47 ⟨yhR,ysh,fun x=>yoJ x.1 x.2.1 x.2.2.1⟩:=zkh (yOL) Tryz.func47 (by kernel_rfl) (by kernel_rfl) Tryz.ntmps47.symm (by decide) (fun x r h=>(yXT x).trans h)
def yfI (a0:dA) (a1 a2:Int):Bool:=yby a0 a1 a2
theorem yVP (a0:dA) (a1 a2:Int) (hk:zi9 yhR (a0,a1,a2,())):yoJ a0 a1 a2=(fun n=>some ((n,()),())) (yfI a0 a1 a2):=by
 have hb:a0.2.2.1.length * 80≤2 ^ 47:=hk.1.2.2.1.1
 unfold yoJ yfI yby noMem
 rw [yai,ypD (show a0.2.2.1.length≤1152921504606846976 by omega),bne_comm]
 cases inb a1 a0.2.2.1.length
 ·rfl
 ·cases (nth a0.2.2.1 a1 ([],[],false,[])).2.2.1<;>cases (a1 !=a0.2.2.2.1)<;>rfl
def yvd:Con:=⟨yhR,ysh,fun x=>(fun n=>some ((n,()),())) (yfI x.1 x.2.1 x.2.2.1)⟩
theorem yGx:ConOk Tryz.prog 47 yvd:=(yTJ).mono (fun x r hk h=>(yVP x.1 x.2.1 x.2.2.1 hk).trans h)
end
section
def yHy:Code:=(Tryz.f108.body).getD .skip
def yH4:Env:=zki TT [(126,yJ)] []
theorem yOH:FrOk Tryz.prog ⟨yH4,9,fun _=>none⟩ yHy:=zkp yb yd ⟨yT,trivial⟩
def yRi:Nat→Option Seg:=fun _=>none
abbrev ymL:List Par:= [.rd tI]
abbrev yse:List OT:= [⟨false,tI,.fz⟩]
def yvQ (a0:Int):Option (ResD yse×MutD ymL) :=
 let r1:=yf a0 0 1099511627776
 bif (!r1) then
 some (((-1),()),())
 else
 some (((IntKind.i64.wrap ((IntKind.i64.wrap (a0+2))+4)),()),())
theorem yXQ (x:InD ymL):zjH ⟨yH4,9,yRi⟩ Tryz.f108.results.toList yHy ymL yse x=yvQ x.1:=by kernel_rfl
theorem yTG:ConOk Tryz.prog 108 ⟨ymL,yse,fun x=>yvQ x.1⟩:=zkh (yOH) Tryz.func108 (by kernel_rfl) (by kernel_rfl) Tryz.ntmps108.symm (by decide) (fun x r h=>(yXQ x).trans h)
def yne (a0:Int):Int :=
 let r1:=yf a0 0 1099511627776
 bif (!r1) then
 (-1)
 else
 (IntKind.i64.wrap ((IntKind.i64.wrap (a0+2))+4))
def yvb:Con:=⟨ymL,yse,fun x=>(fun n=>some ((n,()),())) (yne x.1)⟩
theorem yVM (a0:Int):yvQ a0=(fun n=>some ((n,()),())) (yne a0):=zkS (p:=fun (n:Int)=>((n,()),())) (zkx (p:=fun (n:Int)=>((n,()),())) rfl rfl)
theorem yGv:ConOk Tryz.prog 108 yvb:=(yTG).mono (fun x r _ h=>(yVM x.1).trans h)
theorem yGp (s:Int):yne s=dataAt s:=ygT s
end
section
def yHG:Code:=(Tryz.f179.body).getD .skip
def yIc:Env:=zki TT [(126,yJ)] []
theorem yOR:FrOk Tryz.prog ⟨yIc,5,fun _=>none⟩ yHG:=zkp yb yd ⟨yT,trivial⟩
def yRq:Nat→Option Seg:=fun _=>none
abbrev ymQ:List Par:= [.rd tI]
abbrev ysn:List OT:= [⟨false,tB,.fz⟩]
def yvV (a0:Int):Option (ResD ysn×MutD ymQ) :=
 let r1:=yf a0 0 65535
 some ((r1,()),())
theorem yXZ (x:InD ymQ):zjH ⟨yIc,5,yRq⟩ Tryz.f179.results.toList yHG ymQ ysn x=yvV x.1:=by kernel_rfl
theorem yTP:ConOk Tryz.prog 179 ⟨ymQ,ysn,fun x=>yvV x.1⟩:=zkh (yOR) Tryz.func179 (by kernel_rfl) (by kernel_rfl) Tryz.ntmps179.symm (by decide) (fun x r h=>(yXZ x).trans h)
def yaj (a0:Int):Bool :=
 let r1:=yf a0 0 65535
 r1
def yEd:Con:=⟨ymQ,ysn,fun x=>(fun n=>some ((n,()),())) (yaj x.1)⟩
theorem yVV (a0:Int):yvV a0=(fun n=>some ((n,()),())) (yaj a0):=zkS (p:=fun (n:Bool)=>((n,()),())) rfl
theorem yWL:ConOk Tryz.prog 179 yEd:=(yTP).mono (fun x r _ h=>(yVV x.1).trans h)
end
end
end Go.Tf
