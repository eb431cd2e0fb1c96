/- Functions of the program, and what they come to. -/
import Derived.Test.YtgmadfpnljibhaaWordsF10
namespace Go.Tf
noncomputable section
open Go.Proofs
set_option synthInstance.maxHeartbeats 400000
set_option synthInstance.maxSize 10000
set_option linter.unusedVariables false
set_option linter.unusedSimpArgs false
set_option maxRecDepth 100000
section
def yig:Code:=(Try.f34.body).getD .skip
def ymc:Env:=zki TT [(47,ycF),(77,yu6),(78,ywL),(79,yvi)] []
theorem yC4:FrOk Try.prog ⟨ymc,24,fun _=>none⟩ yig:=zkp yc yd ⟨yfZ,yJu,yLt,yJG,trivial⟩
def yuo:Nat→Option Seg:=fun _=>none
def ya8:Shape:=⟨[(0,false,[.ptr 1000000000 0]),(4,false,[.ptr 0 0]),(5,false,[.ptr 4480 0]),(6,false,[.int .i64])],[(0,[.int .i64,.int .i64,.int .i64,.nil,.int .i64,.int .i64,.int .i64,.int .i64,.int .i64,.nil,.int .i64,.bool,.bool]),(4480,[.int .i64,.int .i64,.int .i64,.at 800000000,.int .i64,.int .i64,.int .i64,.int .i64,.int .i64,.at 800000001,.int .i64,.bool,.bool]),(1000000000,[.fz tY,.int .i64,.int .i64])],[(800000000,tM,(.pr (.ow .fz) (.pr (.ow (.pr .fz .fz)) (.pr .fz (.ow .fz))))),(800000001,tW,(.pr .fz .fz))]⟩
def yez:Shape:=⟨[(0,false,[.ptr 1000000000 0]),(4,false,[.ptr 0 0]),(5,false,[.ptr 4480 0]),(6,false,[.int .i64])],[(0,[.int .i64,.int .i64,.int .i64,.nil,.int .i64,.int .i64,.int .i64,.int .i64,.int .i64,.nil,.int .i64,.bool,.bool]),(4480,[.int .i64,.int .i64,.int .i64,.at 800000000,.int .i64,.int .i64,.int .i64,.int .i64,.int .i64,.at 800000001,.int .i64,.bool,.bool]),(1000000000,[.fz tY,.int .i64,.int .i64])],[(800000000,tM,(.pr (.ow .fz) (.pr (.ow (.pr .fz .fz)) (.pr .fz (.ow .fz))))),(800000001,tW,(.pr .fz .fz))]⟩
def yeo:Shape:=⟨[(4,false,[.ptr 0 0]),(5,false,[.ptr 4480 0])],[(0,[.int .i64,.int .i64,.int .i64,.nil,.int .i64,.int .i64,.int .i64,.int .i64,.int .i64,.nil,.int .i64,.bool,.bool]),(4480,[.int .i64,.int .i64,.int .i64,.at 800000000,.int .i64,.int .i64,.int .i64,.int .i64,.int .i64,.at 800000001,.int .i64,.bool,.bool]),(1000000000,[.fz tY,.int .i64,.int .i64])],[(800000000,tM,(.pr (.ow .fz) (.pr (.ow (.pr .fz .fz)) (.pr .fz (.ow .fz))))),(800000001,tW,(.pr .fz .fz))]⟩
def yhN:Shape:=⟨[],[],[]⟩
abbrev ylF (v0:Int) (v1:dA) (v2:dA) (v3:dU):(ya8).X:=((((),()),((),()),((),()),(v0,()),()),((v1.1,v1.2.1.1,v1.2.1.2,(),v1.2.2.2.1,v1.2.2.2.2.1,v1.2.2.2.2.2.1,v1.2.2.2.2.2.2.1,v1.2.2.2.2.2.2.2.1,(),v1.2.2.2.2.2.2.2.2.2.1,v1.2.2.2.2.2.2.2.2.2.2.1,v1.2.2.2.2.2.2.2.2.2.2.2,()),(v2.1,v2.2.1.1,v2.2.1.2,(),v2.2.2.2.1,v2.2.2.2.2.1,v2.2.2.2.2.2.1,v2.2.2.2.2.2.2.1,v2.2.2.2.2.2.2.2.1,(),v2.2.2.2.2.2.2.2.2.2.1,v2.2.2.2.2.2.2.2.2.2.2.1,v2.2.2.2.2.2.2.2.2.2.2.2,()),(v3.1,v3.2.1,v3.2.2,()),()),(v2.2.2.1,v2.2.2.2.2.2.2.2.2.1,()))
abbrev yBp (v0:Int) (v1:dA) (v2:dA) (v3:dU):(yez).X:=((((),()),((),()),((),()),(v0,()),()),((v1.1,v1.2.1.1,v1.2.1.2,(),v1.2.2.2.1,v1.2.2.2.2.1,v1.2.2.2.2.2.1,v1.2.2.2.2.2.2.1,v1.2.2.2.2.2.2.2.1,(),v1.2.2.2.2.2.2.2.2.2.1,v1.2.2.2.2.2.2.2.2.2.2.1,v1.2.2.2.2.2.2.2.2.2.2.2,()),(v2.1,v2.2.1.1,v2.2.1.2,(),v2.2.2.2.1,v2.2.2.2.2.1,v2.2.2.2.2.2.1,v2.2.2.2.2.2.2.1,v2.2.2.2.2.2.2.2.1,(),v2.2.2.2.2.2.2.2.2.2.1,v2.2.2.2.2.2.2.2.2.2.2.1,v2.2.2.2.2.2.2.2.2.2.2.2,()),(v3.1,v3.2.1,v3.2.2,()),()),(v2.2.2.1,v2.2.2.2.2.2.2.2.2.1,()))
abbrev yBg (v0:dA) (v1:dA) (v2:dU):(yeo).X:=((((),()),((),()),()),((v0.1,v0.2.1.1,v0.2.1.2,(),v0.2.2.2.1,v0.2.2.2.2.1,v0.2.2.2.2.2.1,v0.2.2.2.2.2.2.1,v0.2.2.2.2.2.2.2.1,(),v0.2.2.2.2.2.2.2.2.2.1,v0.2.2.2.2.2.2.2.2.2.2.1,v0.2.2.2.2.2.2.2.2.2.2.2,()),(v1.1,v1.2.1.1,v1.2.1.2,(),v1.2.2.2.1,v1.2.2.2.2.1,v1.2.2.2.2.2.1,v1.2.2.2.2.2.2.1,v1.2.2.2.2.2.2.2.1,(),v1.2.2.2.2.2.2.2.2.2.1,v1.2.2.2.2.2.2.2.2.2.2.1,v1.2.2.2.2.2.2.2.2.2.2.2,()),(v2.1,v2.2.1,v2.2.2,()),()),(v1.2.2.1,v1.2.2.2.2.2.2.2.2.1,()))
def ylS (v0:Int) (v1:Int) (v2:Int) (v3:Int) (v4:Int) (v5:Int) (v6:Int) (v7:Int) (v8:Int) (v9:Int) (v10:Bool) (v11:Bool) (v12:Int) (v13:Int) (v14:Int) (v15:Int) (v16:Int) (v17:Int) (v18:Int) (v19:Int) (v20:Int) (v21:Bool) (v22:Bool) (v23:List Int) (v24:Int) (v25:Int) (v26:List dM) (v27:List dW):Option ((ya8).X ⊕ ((yeo).X ⊕ (yhN).X)) :=
  bif (ltb 0 v0) then
    bnd (ydf (v23,v24,v25) (v12,(v13,v14),v26,v15,v16,v17,v18,v19,v27,v20,v21,v22)) fun r6 =>
    some (.inl ((((),()),((),()),((),()),((IntKind.i64.wrap (v0 - 1)),()),()),((v1,v2,v3,(),v4,v5,v6,v7,v8,(),v9,v10,v11,()),(r6.2.2.1.1,r6.2.2.1.2.1.1,r6.2.2.1.2.1.2,(),r6.2.2.1.2.2.2.1,r6.2.2.1.2.2.2.2.1,r6.2.2.1.2.2.2.2.2.1,r6.2.2.1.2.2.2.2.2.2.1,r6.2.2.1.2.2.2.2.2.2.2.1,(),r6.2.2.1.2.2.2.2.2.2.2.2.2.1,r6.2.2.1.2.2.2.2.2.2.2.2.2.2.1,r6.2.2.1.2.2.2.2.2.2.2.2.2.2.2,()),(r6.2.1.1,r6.2.1.2.1,r6.2.1.2.2,()),()),(r6.2.2.1.2.2.1,r6.2.2.1.2.2.2.2.2.2.2.2.1,())))
  else
    some (.inr (.inl ((((),()),((),()),()),((v1,v2,v3,(),v4,v5,v6,v7,v8,(),v9,v10,v11,()),(v12,v13,v14,(),v15,v16,v17,v18,v19,(),v20,v21,v22,()),(v23,v24,v25,()),()),(v26,v27,()))))
def ybx (x:(ya8).X):=ylS x.1.2.2.2.1.1 x.2.1.1.1 x.2.1.1.2.1 x.2.1.1.2.2.1 x.2.1.1.2.2.2.2.1 x.2.1.1.2.2.2.2.2.1 x.2.1.1.2.2.2.2.2.2.1 x.2.1.1.2.2.2.2.2.2.2.1 x.2.1.1.2.2.2.2.2.2.2.2.1 x.2.1.1.2.2.2.2.2.2.2.2.2.2.1 x.2.1.1.2.2.2.2.2.2.2.2.2.2.2.1 x.2.1.1.2.2.2.2.2.2.2.2.2.2.2.2.1 x.2.1.2.1.1 x.2.1.2.1.2.1 x.2.1.2.1.2.2.1 x.2.1.2.1.2.2.2.2.1 x.2.1.2.1.2.2.2.2.2.1 x.2.1.2.1.2.2.2.2.2.2.1 x.2.1.2.1.2.2.2.2.2.2.2.1 x.2.1.2.1.2.2.2.2.2.2.2.2.1 x.2.1.2.1.2.2.2.2.2.2.2.2.2.2.1 x.2.1.2.1.2.2.2.2.2.2.2.2.2.2.2.1 x.2.1.2.1.2.2.2.2.2.2.2.2.2.2.2.2.1 x.2.1.2.2.1.1 x.2.1.2.2.1.2.1 x.2.1.2.2.1.2.2.1 x.2.2.1 x.2.2.2.1
def yrz (x:(yez).X):(ya8).X:=((((),()),((),()),((),()),(x.1.2.2.2.1.1,()),()),((x.2.1.1.1,x.2.1.1.2.1,x.2.1.1.2.2.1,(),x.2.1.1.2.2.2.2.1,x.2.1.1.2.2.2.2.2.1,x.2.1.1.2.2.2.2.2.2.1,x.2.1.1.2.2.2.2.2.2.2.1,x.2.1.1.2.2.2.2.2.2.2.2.1,(),x.2.1.1.2.2.2.2.2.2.2.2.2.2.1,x.2.1.1.2.2.2.2.2.2.2.2.2.2.2.1,x.2.1.1.2.2.2.2.2.2.2.2.2.2.2.2.1,()),(x.2.1.2.1.1,x.2.1.2.1.2.1,x.2.1.2.1.2.2.1,(),x.2.1.2.1.2.2.2.2.1,x.2.1.2.1.2.2.2.2.2.1,x.2.1.2.1.2.2.2.2.2.2.1,x.2.1.2.1.2.2.2.2.2.2.2.1,x.2.1.2.1.2.2.2.2.2.2.2.2.1,(),x.2.1.2.1.2.2.2.2.2.2.2.2.2.2.1,x.2.1.2.1.2.2.2.2.2.2.2.2.2.2.2.1,x.2.1.2.1.2.2.2.2.2.2.2.2.2.2.2.2.1,()),(x.2.1.2.2.1.1,x.2.1.2.2.1.2.1,x.2.1.2.2.1.2.2.1,()),()),(x.2.2.1,x.2.2.2.1,()))
def ysI:Code:=(zdI yig 64 116).getD .skip
theorem yCp:zdI yig 64 29=some (.block 0 (.loop ysI)):=by kernel_rfl
theorem yEz (x:(ya8).X):zg7 ⟨ymc,24,yuo⟩ 0 ysI 116 ya8 yeo yhN x=ybx x:=by kernel_rfl
def yrK (x:(yez).X):Nat:=(fun (u0:Int) (u1:Int) (u2:Int) (u3:Int) (u4:Int) (u5:Int) (u6:Int) (u7:Int) (u8:Int) (u9:Int) (u10:Bool) (u11:Bool) (u12:Int) (u13:Int) (u14:Int) (u15:Int) (u16:Int) (u17:Int) (u18:Int) (u19:Int) (u20:Int) (u21:Bool) (u22:Bool) (u23:List Int) (u24:Int) (u25:Int) (u26:List dM) (u27:List dW)=>18446744073709551616) x.1.2.2.2.1.1 x.2.1.1.1 x.2.1.1.2.1 x.2.1.1.2.2.1 x.2.1.1.2.2.2.2.1 x.2.1.1.2.2.2.2.2.1 x.2.1.1.2.2.2.2.2.2.1 x.2.1.1.2.2.2.2.2.2.2.1 x.2.1.1.2.2.2.2.2.2.2.2.1 x.2.1.1.2.2.2.2.2.2.2.2.2.2.1 x.2.1.1.2.2.2.2.2.2.2.2.2.2.2.1 x.2.1.1.2.2.2.2.2.2.2.2.2.2.2.2.1 x.2.1.2.1.1 x.2.1.2.1.2.1 x.2.1.2.1.2.2.1 x.2.1.2.1.2.2.2.2.1 x.2.1.2.1.2.2.2.2.2.1 x.2.1.2.1.2.2.2.2.2.2.1 x.2.1.2.1.2.2.2.2.2.2.2.1 x.2.1.2.1.2.2.2.2.2.2.2.2.1 x.2.1.2.1.2.2.2.2.2.2.2.2.2.2.1 x.2.1.2.1.2.2.2.2.2.2.2.2.2.2.2.1 x.2.1.2.1.2.2.2.2.2.2.2.2.2.2.2.2.1 x.2.1.2.2.1.1 x.2.1.2.2.1.2.1 x.2.1.2.2.1.2.2.1 x.2.2.1 x.2.2.2.1
def ym1 (x:(yez).X):Option ((yeo).X ⊕ (yhN).X):=zr ybx (yrK x) (yrz x)
def yr0:Seg:=⟨yez,yeo,yhN,ym1⟩
def yup:Nat→Option Seg:=fun q=>bif Nat.beq q 29 then some yr0 else yuo q
theorem yC5:FrOk Try.prog ⟨ymc,24,yup⟩ yig:=(yC4).loop (sg:=yr0) ya8 yrz (by decide) yCp ybx yrK (by decide) (fun _=>rfl) (fun x r _ h=>h) yEz
abbrev yiz:List Par:= [.pt tU .fz,.rd tI]
abbrev ymF:List OT:= [⟨false,tA,(.pr .fz (.pr (.pr .fz .fz) (.pr (.ow (.pr (.ow .fz) (.pr (.ow (.pr .fz .fz)) (.pr .fz (.ow .fz))))) (.pr .fz (.pr .fz (.pr .fz (.pr .fz (.pr .fz (.pr (.ow (.pr .fz .fz)) (.pr .fz (.pr .fz .fz)))))))))))⟩]
def ybX (a0:dU) (a1:Int):Option (ResD ymF×MutD yiz) :=
  bnd (ye a0 2) fun r1 =>
  bnd (yd7 r1.2.1) fun r2 =>
  let r3:=yiM (IntKind.i64.wrap (1+r1.1.1)) r2.1.1
  bnd (ye r2.2.1 (IntKind.i64.wrap (a1+1))) fun r4 =>
  zjw (ym1 ((((),()),((),()),((),()),(r4.1.1,()),()),((0,0,0,(),0,0,0,0,0,(),0,false,false,()),(r3.1,r3.2.1.1,r3.2.1.2,(),r3.2.2.2.1,r3.2.2.2.2.1,r3.2.2.2.2.2.1,r3.2.2.2.2.2.2.1,r3.2.2.2.2.2.2.2.1,(),r3.2.2.2.2.2.2.2.2.2.1,r3.2.2.2.2.2.2.2.2.2.2.1,r3.2.2.2.2.2.2.2.2.2.2.2,()),(r4.2.1.1,r4.2.1.2.1,r4.2.1.2.2,()),()),(r3.2.2.1,r3.2.2.2.2.2.2.2.2.1,()))) (fun y6 =>
    some (((y6.2.1.2.1.1,(y6.2.1.2.1.2.1,y6.2.1.2.1.2.2.1),y6.2.2.1,y6.2.1.2.1.2.2.2.2.1,y6.2.1.2.1.2.2.2.2.2.1,y6.2.1.2.1.2.2.2.2.2.2.1,y6.2.1.2.1.2.2.2.2.2.2.2.1,y6.2.1.2.1.2.2.2.2.2.2.2.2.1,y6.2.2.2.1,y6.2.1.2.1.2.2.2.2.2.2.2.2.2.2.1,y6.2.1.2.1.2.2.2.2.2.2.2.2.2.2.2.1,y6.2.1.2.1.2.2.2.2.2.2.2.2.2.2.2.2.1),()),((y6.2.1.2.2.1.1,y6.2.1.2.2.1.2.1,y6.2.1.2.2.1.2.2.1),()))) (fun y6 =>
    none)
theorem yKR (x:InD yiz):zjH ⟨ymc,24,yup⟩ Try.f34.results.toList yig yiz ymF x=ybX x.1 x.2.1:=by kernel_rfl
theorem yG7:ConOk Try.prog 34 ⟨yiz,ymF,fun x=>ybX x.1 x.2.1⟩:=zkh (yC5) Try.func34 (by kernel_rfl) (by kernel_rfl) Try.ntmps34.symm (by decide) (fun x r h=>(yKR x).trans h)
def yvg:Con:=⟨yiz,ymF,fun x=>ybX x.1 x.2.1⟩
theorem yJE:ConOk Try.prog 34 yvg:=yG7
theorem yJ3 {P:Int→dA→Prop} {K:Int} (hP: ∀ k a,P k a→coreOk a∧Keep a) (hT: ∀ k a b,P k a→Turned a b→k+16≤K→P (k+16) b): ∀ (n:Nat) (k:Int) (a:dA) (u:dU) (fuel:Nat),n < fuel→n≤1000→ycl u→P k a→k+16 * n≤K →
    ∃ (a':dA) (u':dU),zr ybx fuel (ylF n yk2 a u)=some (.inl (yBg yk2 a' u'))∧ycl u'∧P (k+16 * n) a'
  | 0,k,a,u,fuel+1,_,_,hu,h,_=>⟨a,u,by simp only [zr,ybx,ylF,ylS]; rfl,hu,by rw [show k+16 * ((0:Nat):Int)=k by omega]; exact h⟩
  | n+1,k,a,u,fuel+1,hf,hn,hu,h,hk=>by
    obtain ⟨hc,hkp⟩:=hP k a h
    obtain ⟨u1,a1,e1,d1,h1⟩:=yOF u a hu hc hkp
    obtain ⟨a',u',e2,d2,h2⟩:=yJ3 hP hT n (k+16) a1 u1 fuel (by omega) (by omega) d1 (hT k a a1 h h1 (by omega)) (by omega)
    refine ⟨a',u',?_,d2,by rw [show k+16 * ((n+1:Nat):Int)=k+16+16 * (n:Int) by omega]; exact h2⟩
    rw [← e2,zr]
    simp only [ybx,ylF,ylS,zjI (show (0:Int) < ((n+1:Nat):Int) by omega),cond_true,zkV,e1,zky,show ((n+1:Nat):Int) - 1=(n:Int) by omega,wr (show -9223372036854775808≤(n:Int) by omega) (by omega)]
theorem yFn {P:Int→dA→Prop} {K:Int} (hP: ∀ k a,P k a→coreOk a∧Keep a) (hT: ∀ k a b,P k a→Turned a b→k+16≤K→P (k+16) b) (h0P: ∀ id g,yb g=true→1≤id→id≤60000→P 0 (yiG id g))
    (u:dU) (most:Int) (h:ycl u) (h0:0≤most) (h1:most≤1000) (hm:16 * most≤K): ∃ (a:dA) (u':dU) (k:Int),ybX u most=some ((a,()),(u',()))∧P k a∧k≤16 * most∧ycl u':=by
  obtain ⟨r1,u1,e1,q1,d1⟩:=ydl u 2 h
  obtain ⟨g,u2,e2,q2,d2⟩:=yN9 u1 d1
  obtain ⟨r3,u3,e3,q3,d3⟩:=ydl u2 (most+1) d2
  have:=q1.1; have:=q1.2.1 (by omega); have:=q3.1; have:=q3.2.1 (by omega)
  have hn:=h0P (1+r1) g q2 (by omega) (by omega)
  obtain ⟨a',u',e4,d4,h4⟩:=yJ3 hP hT r3.toNat 0 (yiG (1+r1) g) u3 18446744073709551616 (by omega) (by omega) d3 hn (by omega)
  rw [show ((r3.toNat:Nat):Int)=r3 by omega]at e4
  unfold ybX
  simp only [e1,e2,zky,wr (show -9223372036854775808≤most+1 by omega) (by omega),e3,wr (show -9223372036854775808≤1+r1 by omega) (by omega),yiM]
  refine ⟨a',u',_,?_,h4,by omega,d4⟩
  exact (congrArg (fun z=>zjw z _ _) (show ym1 (yBp r3 yk2 (yiG (1+r1) g) u3)=_ from e4)).trans rfl
theorem yPK (u:dU) (most:Int) (h:ycl u) (h0:0≤most) (h1:most≤1000): ∃ (a:dA) (u':dU),ybX u most=some ((a,()),(u',()))∧Wk 16000 a∧ycl u':=by
  obtain ⟨a,u',k,e,q,hk,d⟩:=yFn (P:=fun k a=>Wk k a∧k≤16000) (K:=16000) (fun k a h=>⟨h.1.1,h.1.2.1⟩) (fun k a b h ht hk=>⟨yaU (yKj h.1 ht (by omega)) (by omega),by omega⟩) (fun id g h1 h2 h3=>⟨yMF h1 h2 h3,by omega⟩) u most h h0 h1 (by omega)
  exact ⟨a,u',e,yaU q.1 (by omega),d⟩
end
section
def yx0:Code:=(Try.f35.body).getD .skip
def yyq:Env:=zki TT [] []
theorem yCX:FrOk Try.prog ⟨yyq,15,fun _=>none⟩ yx0:=zkp yc yd trivial
def yEY:Nat→Option Seg:=fun _=>none
abbrev yix:List Par:= [.rd tYs,.rd tI]
abbrev ymC:List OT:= [⟨false,tI,.fz⟩]
def ypd (a0:List Int) (a1:Int):Option (ResD ymC×MutD yix) :=
  bif (ltb a1 (IntKind.i64.wrap (3+(IntKind.i64.wrap ((a0.length:Int).tdiv 12))))) then
    some ((a1,()),())
  else
    some (((IntKind.i64.wrap (3+(IntKind.i64.wrap ((a0.length:Int).tdiv 12)))),()),())
theorem yKN (x:InD yix):zjH ⟨yyq,15,yEY⟩ Try.f35.results.toList yx0 yix ymC x=ypd x.1 x.2.1:=by kernel_rfl
theorem yG3:ConOk Try.prog 35 ⟨yix,ymC,fun x=>ypd x.1 x.2.1⟩:=zkh (yCX) Try.func35 (by kernel_rfl) (by kernel_rfl) Try.ntmps35.symm (by decide) (fun x r h=>(yKN x).trans h)
def ycj (a0:List Int) (a1:Int):Int :=
  bif (ltb a1 (IntKind.i64.wrap (3+(IntKind.i64.wrap ((a0.length:Int).tdiv 12))))) then
    a1
  else
    (IntKind.i64.wrap (3+(IntKind.i64.wrap ((a0.length:Int).tdiv 12))))
def yvd:Con:=⟨yix,ymC,fun x=>(fun n=>some ((n,()),())) (ycj x.1 x.2.1)⟩
theorem yIR (a0:List Int) (a1:Int):ypd a0 a1=(fun n=>some ((n,()),())) (ycj a0 a1):=zkS (p:=fun (n:Int)=>((n,()),())) (zkx (p:=fun (n:Int)=>((n,()),())) rfl rfl)
theorem yJB:ConOk Try.prog 35 yvd:=(yG3).mono (fun x r _ h=>(yIR x.1 x.2.1).trans h)
theorem yOE (l:List Int) (n:Int) (hn:0≤n) (hl:l.length≤140737488355328):0≤ycj l n∧ycj l n≤n:=by
  unfold ycj
  have h1:0≤(l.length:Int).tdiv 12:=Int.tdiv_nonneg (by omega) (by omega)
  have h2:(l.length:Int).tdiv 12≤(l.length:Int):=by
    rw [Int.tdiv_eq_ediv_of_nonneg (by omega)]
    exact Int.ediv_le_self _ (by omega)
  rw [wr (show -9223372036854775808≤(l.length:Int).tdiv 12 by omega) (by omega),wr (show -9223372036854775808≤3+(l.length:Int).tdiv 12 by omega) (by omega)]
  by_cases h:n < 3+(l.length:Int).tdiv 12
  · rw [zjI h]; exact ⟨hn,Int.le_refl _⟩
  · rw [zkm (by omega),cond_false]; omega
end
section
def yvT:Code:=(Try.f7.body).getD .skip
def ywq:Env:=zki TT [(33,ywK),(34,yvg),(35,yvd)] []
theorem yAU:FrOk Try.prog ⟨ywq,11,fun _=>none⟩ yvT:=zkp yc yd ⟨yLs,yJE,yJB,trivial⟩
def yB6:Nat→Option Seg:=fun _=>none
abbrev ygQ:List Par:= [.kp tYs .fz]
abbrev ykN:List OT:= [⟨false,tA,(.pr .fz (.pr (.pr .fz .fz) (.pr (.ow (.pr (.ow .fz) (.pr (.ow (.pr .fz .fz)) (.pr .fz (.ow .fz))))) (.pr .fz (.pr .fz (.pr .fz (.pr .fz (.pr .fz (.pr (.ow (.pr .fz .fz)) (.pr .fz (.pr .fz .fz)))))))))))⟩]
def ycJ (a0:List Int):Option (ResD ykN×MutD ygQ) :=
  let r1:=yho a0
  let r2:=ycj a0 24
  bnd (ybX r1 (IntKind.i64.wrap (6+r2))) fun r3 =>
  some ((r3.1.1,()),())
theorem yId (x:InD ygQ):zjH ⟨ywq,11,yB6⟩ Try.f7.results.toList yvT ygQ ykN x=ycJ x.1:=by kernel_rfl
theorem yD4:ConOk Try.prog 7 ⟨ygQ,ykN,fun x=>ycJ x.1⟩:=zkh (yAU) Try.func7 (by kernel_rfl) (by kernel_rfl) Try.ntmps7.symm (by decide) (fun x r h=>(yId x).trans h)
def ysO:Con:=⟨ygQ,ykN,fun x=>ycJ x.1⟩
theorem yHk:ConOk Try.prog 7 ysO:=yD4
theorem yNg (a0:List Int) (hb:a0.length≤140737488355328): ∃ (a:dA) (V:Int→Int→Int),ycJ a0=some ((a,()),())∧Wk 480 a∧Ix 480 V a:=by
  obtain ⟨h1,h2⟩:=yOE a0 24 (by omega) hb
  obtain ⟨a,u',k,e,⟨q1,V,q2⟩,hk,d⟩:=yFn (P:=fun k a=>Wk k a∧ ∃ V,Ix k V a) (K:=480) (fun k a h=>⟨h.1.1,h.1.2.1⟩)
    (fun k a b h ht hk=>by
      obtain ⟨hw,V,hi⟩:=h
      have hw':=yKj hw ht (by omega)
      exact ⟨yaU hw' (by omega),yNK hi ht (by omega) hw'.2.2.1.1⟩) (fun id g g1 g2 g3=>⟨yMF g1 g2 g3,_,yO9 g1 g2 g3⟩) _ (6+ycj a0 24) (yO5 a0 hb) (by omega) (by omega) (by omega)
  refine ⟨a,V,?_,yaU q1 (by omega),ycI q2 (by omega)⟩
  unfold ycJ
  simp only [wr (show -9223372036854775808≤6+ycj a0 24 by omega) (by omega),e,zky]
end
section
def yxP:Code:=(Try.f39.body).getD .skip
def yyf:Env:=zki TT [] []
theorem yCH:FrOk Try.prog ⟨yyf,15,fun _=>none⟩ yxP:=zkp yc yd trivial
def yEN:Nat→Option Seg:=fun _=>none
abbrev yiq:List Par:= [.rd tI,.rd tI,.rd tI]
abbrev ymq:List OT:= [⟨false,tB,.fz⟩]
def yo9 (a0:Int) (a1:Int) (a2:Int):Option (ResD ymq×MutD yiq) :=
  bif (leb a1 a0) then
    some (((leb a0 a2),()),())
  else
    some ((false,()),())
theorem yKA (x:InD yiq):zjH ⟨yyf,15,yEN⟩ Try.f39.results.toList yxP yiq ymq x=yo9 x.1 x.2.1 x.2.2.1:=by kernel_rfl
theorem yGQ:ConOk Try.prog 39 ⟨yiq,ymq,fun x=>yo9 x.1 x.2.1 x.2.2.1⟩:=zkh (yCH) Try.func39 (by kernel_rfl) (by kernel_rfl) Try.ntmps39.symm (by decide) (fun x r h=>(yKA x).trans h)
def yi (a0:Int) (a1:Int) (a2:Int):Bool :=
  bif (leb a1 a0) then
    (leb a0 a2)
  else
    false
def yD:Con:=⟨yiq,ymq,fun x=>(fun n=>some ((n,()),())) (yi x.1 x.2.1 x.2.2.1)⟩
theorem yIH (a0:Int) (a1:Int) (a2:Int):yo9 a0 a1 a2=(fun n=>some ((n,()),())) (yi a0 a1 a2):=zkS (p:=fun (n:Bool)=>((n,()),())) (zkx (p:=fun (n:Bool)=>((n,()),())) rfl rfl)
theorem yS:ConOk Try.prog 39 yD:=(yGQ).mono (fun x r _ h=>(yIH x.1 x.2.1 x.2.2.1).trans h)
theorem yaj (a b c:Int):yi a b c=ya a b c:=by kernel_rfl
end
section
def yyX:Code:=(Try.f40.body).getD .skip
def yy8:Env:=zki TT [(39,yD)] []
theorem yFD:FrOk Try.prog ⟨yy8,11,fun _=>none⟩ yyX:=zkp yc yd ⟨yS,trivial⟩
def yHS:Nat→Option Seg:=fun _=>none
abbrev yj1:List Par:= [.rd tG]
abbrev yoq:List OT:= [⟨false,tB,.fz⟩]
def ypU (a0:dG):Option (ResD yoq×MutD yj1) :=
  let r1:=yi a0.1 3 5
  bif r1 then
    let r2:=yi a0.2 1 8
    some ((r2,()),())
  else
    some ((false,()),())
theorem yLO (x:InD yj1):zjH ⟨yy8,11,yHS⟩ Try.f40.results.toList yyX yj1 yoq x=ypU x.1:=by kernel_rfl
theorem yI3:ConOk Try.prog 40 ⟨yj1,yoq,fun x=>ypU x.1⟩:=zkh (yFD) Try.func40 (by kernel_rfl) (by kernel_rfl) Try.ntmps40.symm (by decide) (fun x r h=>(yLO x).trans h)
def yhg (a0:dG):Bool :=
  let r1:=yi a0.1 3 5
  bif r1 then
    let r2:=yi a0.2 1 8
    r2
  else
    false
def ypC:Con:=⟨yj1,yoq,fun x=>(fun n=>some ((n,()),())) (yhg x.1)⟩
theorem yK2 (a0:dG):ypU a0=(fun n=>some ((n,()),())) (yhg a0):=zkS (p:=fun (n:Bool)=>((n,()),())) (zkx (p:=fun (n:Bool)=>((n,()),())) rfl rfl)
theorem yyw:ConOk Try.prog 40 ypC:=(yI3).mono (fun x r _ h=>(yK2 x.1).trans h)
theorem yGc (a:Int×Int):yhg a=yb a:=by kernel_rfl
end
section
def yxO:Code:=(Try.f41.body).getD .skip
def yye:Env:=zki TT [(39,yD)] []
theorem yCG:FrOk Try.prog ⟨yye,26,fun _=>none⟩ yxO:=zkp yc yd ⟨yS,trivial⟩
def yEM:Nat→Option Seg:=fun _=>none
abbrev yip:List Par:= [.rd tG,.rd tI,.rd tI]
abbrev ymp:List OT:= [⟨false,tB,.fz⟩]
def yo8 (a0:dG) (a1:Int) (a2:Int):Option (ResD ymp×MutD yip) :=
  let r1:=yi a1 (-1) (IntKind.i64.wrap (a0.1 - 1))
  bif r1 then
    let r2:=yi a2 0 a0.2
    bif r2 then
      bif (!(a2==0)) then
        some (((a1 !=(-1)),()),())
      else
        some ((true,()),())
    else
      some ((false,()),())
  else
    some ((false,()),())
theorem yKz (x:InD yip):zjH ⟨yye,26,yEM⟩ Try.f41.results.toList yxO yip ymp x=yo8 x.1 x.2.1 x.2.2.1:=by kernel_rfl
theorem yGP:ConOk Try.prog 41 ⟨yip,ymp,fun x=>yo8 x.1 x.2.1 x.2.2.1⟩:=zkh (yCG) Try.func41 (by kernel_rfl) (by kernel_rfl) Try.ntmps41.symm (by decide) (fun x r h=>(yKz x).trans h)
def ymM (a0:dG) (a1:Int) (a2:Int):Bool :=
  let r1:=yi a1 (-1) (IntKind.i64.wrap (a0.1 - 1))
  bif r1 then
    let r2:=yi a2 0 a0.2
    bif r2 then
      bif (!(a2==0)) then
        (a1 !=(-1))
      else
        true
    else
      false
  else
    false
def yu5:Con:=⟨yip,ymp,fun x=>(fun n=>some ((n,()),())) (ymM x.1 x.2.1 x.2.2.1)⟩
theorem yIG (a0:dG) (a1:Int) (a2:Int):yo8 a0 a1 a2=(fun n=>some ((n,()),())) (ymM a0 a1 a2):=zkS (p:=fun (n:Bool)=>((n,()),())) (zkx (p:=fun (n:Bool)=>((n,()),())) (zkx (p:=fun (n:Bool)=>((n,()),())) (zkx (p:=fun (n:Bool)=>((n,()),())) rfl rfl) rfl) rfl)
theorem yJt:ConOk Try.prog 41 yu5:=(yGP).mono (fun x r _ h=>(yIG x.1 x.2.1 x.2.2.1).trans h)
end
end
end Go.Tf
