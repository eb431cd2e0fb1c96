/- Functions of the program, and what they come to. -/
import Derived.Test.YtcpidpnglekceaaGreatWordsBentF10
namespace Go.Tf
noncomputable section
open Go.Proofs
set_option synthInstance.maxHeartbeats 400000
set_option synthInstance.maxSize 10000
set_option linter.unusedVariables false
set_option linter.unusedSimpArgs false
set_option maxRecDepth 100000
section
def yiK:Code:=(Tryz.f176.body).getD .skip
def ym9:Env:=zki TT [(86,ywP),(124,yD),(172,yyy),(223,yw2)] []
theorem yE9:FrOk Tryz.prog ⟨ym9,24,fun _=>none⟩ yiK:=zkp ye yf ⟨yL5,yL,yN5,yMi,trivial⟩
def yv4:Nat→Option Seg:=fun _=>none
def ybg:Shape:=⟨[(0,false,[.ptr 1000000000 0]),(4,false,[.ptr 0 0]),(5,false,[.ptr 4480 0]),(6,false,[.int .i64])],[(0,[.int .i64,.int .i64,.int .i64,.nil,.int .i64,.int .i64,.int .i64,.int .i64,.int .i64,.nil,.int .i64,.bool,.bool]),(4480,[.int .i64,.int .i64,.int .i64,.at 800000000,.int .i64,.int .i64,.int .i64,.int .i64,.int .i64,.at 800000001,.int .i64,.bool,.bool]),(1000000000,[.fz tY,.int .i64,.int .i64])],[(800000000,tM,(.pr (.ow .fz) (.pr (.ow (.pr .fz .fz)) (.pr .fz (.ow .fz))))),(800000001,tW,(.pr .fz .fz))]⟩
def yeM:Shape:=⟨[(0,false,[.ptr 1000000000 0]),(4,false,[.ptr 0 0]),(5,false,[.ptr 4480 0]),(6,false,[.int .i64])],[(0,[.int .i64,.int .i64,.int .i64,.nil,.int .i64,.int .i64,.int .i64,.int .i64,.int .i64,.nil,.int .i64,.bool,.bool]),(4480,[.int .i64,.int .i64,.int .i64,.at 800000000,.int .i64,.int .i64,.int .i64,.int .i64,.int .i64,.at 800000001,.int .i64,.bool,.bool]),(1000000000,[.fz tY,.int .i64,.int .i64])],[(800000000,tM,(.pr (.ow .fz) (.pr (.ow (.pr .fz .fz)) (.pr .fz (.ow .fz))))),(800000001,tW,(.pr .fz .fz))]⟩
def yez:Shape:=⟨[(4,false,[.ptr 0 0]),(5,false,[.ptr 4480 0])],[(0,[.int .i64,.int .i64,.int .i64,.nil,.int .i64,.int .i64,.int .i64,.int .i64,.int .i64,.nil,.int .i64,.bool,.bool]),(4480,[.int .i64,.int .i64,.int .i64,.at 800000000,.int .i64,.int .i64,.int .i64,.int .i64,.int .i64,.at 800000001,.int .i64,.bool,.bool]),(1000000000,[.fz tY,.int .i64,.int .i64])],[(800000000,tM,(.pr (.ow .fz) (.pr (.ow (.pr .fz .fz)) (.pr .fz (.ow .fz))))),(800000001,tW,(.pr .fz .fz))]⟩
def yif:Shape:=⟨[],[],[]⟩
abbrev ymw (v0:Int) (v1:dA) (v2:dA) (v3:dU):(ybg).X:=((((),()),((),()),((),()),(v0,()),()),((v1.1,v1.2.1.1,v1.2.1.2,(),v1.2.2.2.1,v1.2.2.2.2.1,v1.2.2.2.2.2.1,v1.2.2.2.2.2.2.1,v1.2.2.2.2.2.2.2.1,(),v1.2.2.2.2.2.2.2.2.2.1,v1.2.2.2.2.2.2.2.2.2.2.1,v1.2.2.2.2.2.2.2.2.2.2.2,()),(v2.1,v2.2.1.1,v2.2.1.2,(),v2.2.2.2.1,v2.2.2.2.2.1,v2.2.2.2.2.2.1,v2.2.2.2.2.2.2.1,v2.2.2.2.2.2.2.2.1,(),v2.2.2.2.2.2.2.2.2.2.1,v2.2.2.2.2.2.2.2.2.2.2.1,v2.2.2.2.2.2.2.2.2.2.2.2,()),(v3.1,v3.2.1,v3.2.2,()),()),(v2.2.2.1,v2.2.2.2.2.2.2.2.2.1,()))
abbrev yDp (v0:Int) (v1:dA) (v2:dA) (v3:dU):(yeM).X:=((((),()),((),()),((),()),(v0,()),()),((v1.1,v1.2.1.1,v1.2.1.2,(),v1.2.2.2.1,v1.2.2.2.2.1,v1.2.2.2.2.2.1,v1.2.2.2.2.2.2.1,v1.2.2.2.2.2.2.2.1,(),v1.2.2.2.2.2.2.2.2.2.1,v1.2.2.2.2.2.2.2.2.2.2.1,v1.2.2.2.2.2.2.2.2.2.2.2,()),(v2.1,v2.2.1.1,v2.2.1.2,(),v2.2.2.2.1,v2.2.2.2.2.1,v2.2.2.2.2.2.1,v2.2.2.2.2.2.2.1,v2.2.2.2.2.2.2.2.1,(),v2.2.2.2.2.2.2.2.2.2.1,v2.2.2.2.2.2.2.2.2.2.2.1,v2.2.2.2.2.2.2.2.2.2.2.2,()),(v3.1,v3.2.1,v3.2.2,()),()),(v2.2.2.1,v2.2.2.2.2.2.2.2.2.1,()))
abbrev yDe (v0:dA) (v1:dA) (v2:dU):(yez).X:=((((),()),((),()),()),((v0.1,v0.2.1.1,v0.2.1.2,(),v0.2.2.2.1,v0.2.2.2.2.1,v0.2.2.2.2.2.1,v0.2.2.2.2.2.2.1,v0.2.2.2.2.2.2.2.1,(),v0.2.2.2.2.2.2.2.2.2.1,v0.2.2.2.2.2.2.2.2.2.2.1,v0.2.2.2.2.2.2.2.2.2.2.2,()),(v1.1,v1.2.1.1,v1.2.1.2,(),v1.2.2.2.1,v1.2.2.2.2.1,v1.2.2.2.2.2.1,v1.2.2.2.2.2.2.1,v1.2.2.2.2.2.2.2.1,(),v1.2.2.2.2.2.2.2.2.2.1,v1.2.2.2.2.2.2.2.2.2.2.1,v1.2.2.2.2.2.2.2.2.2.2.2,()),(v2.1,v2.2.1,v2.2.2,()),()),(v1.2.2.1,v1.2.2.2.2.2.2.2.2.1,()))
def ymL (v0:Int) (v1:Int) (v2:Int) (v3:Int) (v4:Int) (v5:Int) (v6:Int) (v7:Int) (v8:Int) (v9:Int) (v10:Bool) (v11:Bool) (v12:Int) (v13:Int) (v14:Int) (v15:Int) (v16:Int) (v17:Int) (v18:Int) (v19:Int) (v20:Int) (v21:Bool) (v22:Bool) (v23:List Int) (v24:Int) (v25:Int) (v26:List dM) (v27:List dW):Option ((ybg).X ⊕ ((yez).X ⊕ (yif).X)) :=
  bif (ltb 0 v0) then
    bnd (yds (v23,v24,v25) (v12,(v13,v14),v26,v15,v16,v17,v18,v19,v27,v20,v21,v22)) fun r6 =>
    some (.inl ((((),()),((),()),((),()),((IntKind.i64.wrap (v0 - 1)),()),()),((v1,v2,v3,(),v4,v5,v6,v7,v8,(),v9,v10,v11,()),(r6.2.2.1.1,r6.2.2.1.2.1.1,r6.2.2.1.2.1.2,(),r6.2.2.1.2.2.2.1,r6.2.2.1.2.2.2.2.1,r6.2.2.1.2.2.2.2.2.1,r6.2.2.1.2.2.2.2.2.2.1,r6.2.2.1.2.2.2.2.2.2.2.1,(),r6.2.2.1.2.2.2.2.2.2.2.2.2.1,r6.2.2.1.2.2.2.2.2.2.2.2.2.2.1,r6.2.2.1.2.2.2.2.2.2.2.2.2.2.2,()),(r6.2.1.1,r6.2.1.2.1,r6.2.1.2.2,()),()),(r6.2.2.1.2.2.1,r6.2.2.1.2.2.2.2.2.2.2.2.1,())))
  else
    some (.inr (.inl ((((),()),((),()),()),((v1,v2,v3,(),v4,v5,v6,v7,v8,(),v9,v10,v11,()),(v12,v13,v14,(),v15,v16,v17,v18,v19,(),v20,v21,v22,()),(v23,v24,v25,()),()),(v26,v27,()))))
def ybI (x:(ybg).X):=ymL x.1.2.2.2.1.1 x.2.1.1.1 x.2.1.1.2.1 x.2.1.1.2.2.1 x.2.1.1.2.2.2.2.1 x.2.1.1.2.2.2.2.2.1 x.2.1.1.2.2.2.2.2.2.1 x.2.1.1.2.2.2.2.2.2.2.1 x.2.1.1.2.2.2.2.2.2.2.2.1 x.2.1.1.2.2.2.2.2.2.2.2.2.2.1 x.2.1.1.2.2.2.2.2.2.2.2.2.2.2.1 x.2.1.1.2.2.2.2.2.2.2.2.2.2.2.2.1 x.2.1.2.1.1 x.2.1.2.1.2.1 x.2.1.2.1.2.2.1 x.2.1.2.1.2.2.2.2.1 x.2.1.2.1.2.2.2.2.2.1 x.2.1.2.1.2.2.2.2.2.2.1 x.2.1.2.1.2.2.2.2.2.2.2.1 x.2.1.2.1.2.2.2.2.2.2.2.2.1 x.2.1.2.1.2.2.2.2.2.2.2.2.2.2.1 x.2.1.2.1.2.2.2.2.2.2.2.2.2.2.2.1 x.2.1.2.1.2.2.2.2.2.2.2.2.2.2.2.2.1 x.2.1.2.2.1.1 x.2.1.2.2.1.2.1 x.2.1.2.2.1.2.2.1 x.2.2.1 x.2.2.2.1
def ysY (x:(yeM).X):(ybg).X:=((((),()),((),()),((),()),(x.1.2.2.2.1.1,()),()),((x.2.1.1.1,x.2.1.1.2.1,x.2.1.1.2.2.1,(),x.2.1.1.2.2.2.2.1,x.2.1.1.2.2.2.2.2.1,x.2.1.1.2.2.2.2.2.2.1,x.2.1.1.2.2.2.2.2.2.2.1,x.2.1.1.2.2.2.2.2.2.2.2.1,(),x.2.1.1.2.2.2.2.2.2.2.2.2.2.1,x.2.1.1.2.2.2.2.2.2.2.2.2.2.2.1,x.2.1.1.2.2.2.2.2.2.2.2.2.2.2.2.1,()),(x.2.1.2.1.1,x.2.1.2.1.2.1,x.2.1.2.1.2.2.1,(),x.2.1.2.1.2.2.2.2.1,x.2.1.2.1.2.2.2.2.2.1,x.2.1.2.1.2.2.2.2.2.2.1,x.2.1.2.1.2.2.2.2.2.2.2.1,x.2.1.2.1.2.2.2.2.2.2.2.2.1,(),x.2.1.2.1.2.2.2.2.2.2.2.2.2.2.1,x.2.1.2.1.2.2.2.2.2.2.2.2.2.2.2.1,x.2.1.2.1.2.2.2.2.2.2.2.2.2.2.2.2.1,()),(x.2.1.2.2.1.1,x.2.1.2.2.1.2.1,x.2.1.2.2.1.2.2.1,()),()),(x.2.2.1,x.2.2.2.1,()))
def yub:Code:=(zdI yiK 64 116).getD .skip
theorem yEm:zdI yiK 64 29=some (.block 0 (.loop yub)):=by kernel_rfl
theorem yGJ (x:(ybg).X):zg7 ⟨ym9,24,yv4⟩ 0 yub 116 ybg yez yif x=ybI x:=by kernel_rfl
def ytb (x:(yeM).X):Nat:=(fun (u0:Int) (u1:Int) (u2:Int) (u3:Int) (u4:Int) (u5:Int) (u6:Int) (u7:Int) (u8:Int) (u9:Int) (u10:Bool) (u11:Bool) (u12:Int) (u13:Int) (u14:Int) (u15:Int) (u16:Int) (u17:Int) (u18:Int) (u19:Int) (u20:Int) (u21:Bool) (u22:Bool) (u23:List Int) (u24:Int) (u25:Int) (u26:List dM) (u27:List dW)=>18446744073709551616) x.1.2.2.2.1.1 x.2.1.1.1 x.2.1.1.2.1 x.2.1.1.2.2.1 x.2.1.1.2.2.2.2.1 x.2.1.1.2.2.2.2.2.1 x.2.1.1.2.2.2.2.2.2.1 x.2.1.1.2.2.2.2.2.2.2.1 x.2.1.1.2.2.2.2.2.2.2.2.1 x.2.1.1.2.2.2.2.2.2.2.2.2.2.1 x.2.1.1.2.2.2.2.2.2.2.2.2.2.2.1 x.2.1.1.2.2.2.2.2.2.2.2.2.2.2.2.1 x.2.1.2.1.1 x.2.1.2.1.2.1 x.2.1.2.1.2.2.1 x.2.1.2.1.2.2.2.2.1 x.2.1.2.1.2.2.2.2.2.1 x.2.1.2.1.2.2.2.2.2.2.1 x.2.1.2.1.2.2.2.2.2.2.2.1 x.2.1.2.1.2.2.2.2.2.2.2.2.1 x.2.1.2.1.2.2.2.2.2.2.2.2.2.2.1 x.2.1.2.1.2.2.2.2.2.2.2.2.2.2.2.1 x.2.1.2.1.2.2.2.2.2.2.2.2.2.2.2.2.1 x.2.1.2.2.1.1 x.2.1.2.2.1.2.1 x.2.1.2.2.1.2.2.1 x.2.2.1 x.2.2.2.1
def yn2 (x:(yeM).X):Option ((yez).X ⊕ (yif).X):=zr ybI (ytb x) (ysY x)
def ytt:Seg:=⟨yeM,yez,yif,yn2⟩
def yv5:Nat→Option Seg:=fun q=>bif Nat.beq q 29 then some ytt else yv4 q
theorem yFa:FrOk Tryz.prog ⟨ym9,24,yv5⟩ yiK:=(yE9).loop (sg:=ytt) ybg ysY (by decide) yEm ybI ytb (by decide) (fun _=>rfl) (fun x r _ h=>h) yGJ
abbrev yi4:List Par:= [.pt tU .fz,.rd tI]
abbrev ynF:List OT:= [⟨false,tA,(.pr .fz (.pr (.pr .fz .fz) (.pr (.ow (.pr (.ow .fz) (.pr (.ow (.pr .fz .fz)) (.pr .fz (.ow .fz))))) (.pr .fz (.pr .fz (.pr .fz (.pr .fz (.pr .fz (.pr (.ow (.pr .fz .fz)) (.pr .fz (.pr .fz .fz)))))))))))⟩]
def ydr (a0:dU) (a1:Int):Option (ResD ynF×MutD yi4) :=
  bnd (ya a0 2) fun r1 =>
  bnd (yeg r1.2.1) fun r2 =>
  let r3:=yji (IntKind.i64.wrap (1+r1.1.1)) r2.1.1
  bnd (ya r2.2.1 (IntKind.i64.wrap (a1+1))) fun r4 =>
  zjw (yn2 ((((),()),((),()),((),()),(r4.1.1,()),()),((0,0,0,(),0,0,0,0,0,(),0,false,false,()),(r3.1,r3.2.1.1,r3.2.1.2,(),r3.2.2.2.1,r3.2.2.2.2.1,r3.2.2.2.2.2.1,r3.2.2.2.2.2.2.1,r3.2.2.2.2.2.2.2.1,(),r3.2.2.2.2.2.2.2.2.2.1,r3.2.2.2.2.2.2.2.2.2.2.1,r3.2.2.2.2.2.2.2.2.2.2.2,()),(r4.2.1.1,r4.2.1.2.1,r4.2.1.2.2,()),()),(r3.2.2.1,r3.2.2.2.2.2.2.2.2.1,()))) (fun y6 =>
    some (((y6.2.1.2.1.1,(y6.2.1.2.1.2.1,y6.2.1.2.1.2.2.1),y6.2.2.1,y6.2.1.2.1.2.2.2.2.1,y6.2.1.2.1.2.2.2.2.2.1,y6.2.1.2.1.2.2.2.2.2.2.1,y6.2.1.2.1.2.2.2.2.2.2.2.1,y6.2.1.2.1.2.2.2.2.2.2.2.2.1,y6.2.2.2.1,y6.2.1.2.1.2.2.2.2.2.2.2.2.2.2.1,y6.2.1.2.1.2.2.2.2.2.2.2.2.2.2.2.1,y6.2.1.2.1.2.2.2.2.2.2.2.2.2.2.2.2.1),()),((y6.2.1.2.2.1.1,y6.2.1.2.2.1.2.1,y6.2.1.2.2.1.2.2.1),()))) (fun y6 =>
    none)
theorem yNl (x:InD yi4):zjH ⟨ym9,24,yv5⟩ Tryz.f176.results.toList yiK yi4 ynF x=ydr x.1 x.2.1:=by kernel_rfl
theorem yJx:ConOk Tryz.prog 176 ⟨yi4,ynF,fun x=>ydr x.1 x.2.1⟩:=zkh (yFa) Tryz.func176 (by kernel_rfl) (by kernel_rfl) Tryz.ntmps176.symm (by decide) (fun x r h=>(yNl x).trans h)
def yw0:Con:=⟨yi4,ynF,fun x=>ydr x.1 x.2.1⟩
theorem yMg:ConOk Tryz.prog 176 yw0:=yJx
theorem yMA: ∀ (n:Nat) (k:Int) (a:dA) (u:dU) (fuel:Nat),n < fuel→yM u→Wk k a→k+8 * n≤60000 →
    ∃ (a':dA) (u':dU),zr ybI fuel (ymw n ylO a u)=some (.inl (yDe ylO a' u'))∧yM u'∧Wk (k+8 * n) a'
  | 0,k,a,u,fuel+1,_,hu,h,_=>⟨a,u,by simp only [zr,ybI,ymw,ymL]; rfl,hu,yP h (by omega)⟩
  | n+1,k,a,u,fuel+1,hf,hu,h,hk=>by
    have hn:(n:Int)≤60000:=by have:=h.1.2.2.2.2.2.2.2.2.2.1; have:=h.2.2.2.2; omega
    obtain ⟨u1,a1,e1,d1,h1⟩:=yQP u a hu h (by omega)
    obtain ⟨a',u',e2,d2,h2⟩:=yMA n (k+8) a1 u1 fuel (by omega) d1 h1 (by omega)
    refine ⟨a',u',?_,d2,yP h2 (by omega)⟩
    rw [← e2,zr]
    simp only [ybI,ymw,ymL,zjI (show (0:Int) < ((n+1:Nat):Int) by omega),cond_true,zkV,e1,zky,show ((n+1:Nat):Int) - 1=(n:Int) by omega,wr (show -9223372036854775808≤(n:Int) by omega) (by omega)]
theorem yP2 (u:dU) (most:Int) (h:yM u) (h0:0≤most) (h1:most≤1000): ∃ (a:dA) (u':dU),ydr u most=some ((a,()),(u',()))∧Wk 8000 a∧yM u':=by
  obtain ⟨r1,u1,e1,q1,d1⟩:=yB u 2 h
  obtain ⟨g,u2,e2,q2,d2⟩:=yQv u1 d1
  obtain ⟨r3,u3,e3,q3,d3⟩:=yB u2 (most+1) d2
  have:=q1.1; have:=q1.2.1 (by omega); have:=q3.1; have:=q3.2.1 (by omega)
  have hn:=yRi (id:=1+r1) q2 (by omega) (by omega)
  obtain ⟨a',u',e4,d4,h4⟩:=yMA r3.toNat 0 (ytY (1+r1) g) u3 18446744073709551616 (by omega) d3 hn (by omega)
  rw [show ((r3.toNat:Nat):Int)=r3 by omega]at e4
  unfold ydr
  simp only [e1,e2,zky,wr (show -9223372036854775808≤most+1 by omega) (by omega),e3,wr (show -9223372036854775808≤1+r1 by omega) (by omega),yji]
  refine ⟨a',u',?_,yP h4 (by omega),d4⟩
  exact (congrArg (fun z=>zjw z _ _) (show yn2 (yDp r3 ylO (ytY (1+r1) g) u3)=_ from e4)).trans rfl
end
section
def yA2:Code:=(Tryz.f241.body).getD .skip
def yBj:Env:=zki TT [(124,yD)] []
theorem yIr:FrOk Tryz.prog ⟨yBj,10,fun _=>none⟩ yA2:=zkp ye yf ⟨yL,trivial⟩
def yKs:Nat→Option Seg:=fun _=>none
abbrev ykW:List Par:= [.pt tU .fz]
abbrev ypP:List OT:= [⟨false,tG,(.pr .fz .fz)⟩]
def yee (a0:dU):Option (ResD ypP×MutD ykW) :=
  bnd (ya a0 3) fun r1 =>
  bnd (ya r1.2.1 8) fun r2 =>
  some ((((IntKind.i64.wrap (3+r1.1.1)),(IntKind.i64.wrap (1+r2.1.1))),()),(r2.2.1,()))
theorem yOI (x:InD ykW):zjH ⟨yBj,10,yKs⟩ Tryz.f241.results.toList yA2 ykW ypP x=yee x.1:=by kernel_rfl
theorem yLP:ConOk Tryz.prog 241 ⟨ykW,ypP,fun x=>yee x.1⟩:=zkh (yIr) Tryz.func241 (by kernel_rfl) (by kernel_rfl) Tryz.ntmps241.symm (by decide) (fun x r h=>(yOI x).trans h)
def yyw:Con:=⟨ykW,ypP,fun x=>yee x.1⟩
theorem yN3:ConOk Tryz.prog 241 yyw:=yLP
theorem yQ6 (u:List Int×Int×Int) (h:yM u): ∃ (g:Int×Int) (u':List Int×Int×Int),yee u=some ((g,()),(u',()))∧yd g=true∧yM u':=by
  unfold yee
  obtain ⟨r1,u1,e1,q1,d1⟩:=yB u 3 h
  obtain ⟨r2,u2,e2,q2,d2⟩:=yB u1 8 d1
  simp only [e1,e2,zky]
  refine ⟨_,_,rfl,?_,d2⟩
  have:=q1.2.1 (by omega); have:=q2.2.1 (by omega); have:=q1.1; have:=q2.1
  rw [wr (by omega) (by omega),wr (by omega) (by omega)]
  exact yn.2 ⟨⟨by show 3≤3+r1; omega,by show 3+r1≤5; omega⟩,by show 1≤1+r2; omega,by show 1+r2≤8; omega⟩
end
section
def yA1:Code:=(Tryz.f181.body).getD .skip
def yBi:Env:=zki TT [(109,ycU),(124,yD),(241,yyw)] []
theorem yIq:FrOk Tryz.prog ⟨yBi,21,fun _=>none⟩ yA1:=zkp ye yf ⟨yfs,yL,yN3,trivial⟩
def yKr:Nat→Option Seg:=fun _=>none
abbrev ykV:List Par:= [.pt tU .fz]
abbrev ypO:List OT:= [⟨false,tG,(.pr .fz .fz)⟩]
def yed (a0:dU):Option (ResD ypO×MutD ykV) :=
  bnd (yee a0) fun r1 =>
  bnd (ya r1.2.1 8) fun r2 =>
  bif (r2.1.1==0) then
    bnd (yy r2.2.1 ([0,2,6,(-1)]:List Int)) fun r3 =>
    some (((r3.1.1,r1.1.1.2),()),(r3.2.1,()))
  else
    bif (r2.1.1==1) then
      bnd (yy r2.2.1 ([0,9,(-1)]:List Int)) fun r4 =>
      some (((r1.1.1.1,r4.1.1),()),(r4.2.1,()))
    else
      some ((r1.1.1,()),(r2.2.1,()))
theorem yOH (x:InD ykV):zjH ⟨yBi,21,yKr⟩ Tryz.f181.results.toList yA1 ykV ypO x=yed x.1:=by kernel_rfl
theorem yLO:ConOk Tryz.prog 181 ⟨ykV,ypO,fun x=>yed x.1⟩:=zkh (yIq) Tryz.func181 (by kernel_rfl) (by kernel_rfl) Tryz.ntmps181.symm (by decide) (fun x r h=>(yOH x).trans h)
def yyv:Con:=⟨ykV,ypO,fun x=>yed x.1⟩
theorem yN2:ConOk Tryz.prog 181 yyv:=yLO
theorem yQt (u:dU) (h:yM u): ∃ (g:dG) (u':dU),yed u=some ((g,()),(u',()))∧yM u':=by
  unfold yed
  obtain ⟨g,u1,e1,_,d1⟩:=yQ6 u h
  obtain ⟨r,u2,e2,_,d2⟩:=yB u1 8 d1
  simp only [e1,e2,zky]
  cases (r==0)
  · cases (r==1)
    · exact ⟨_,_,rfl,d2⟩
    · obtain ⟨r3,u3,e3,_,d3⟩:=yjb u2 [0,9,(-1)] d2 (by simp)
      simp only [cond_true,cond_false,e3,zky]
      exact ⟨_,_,rfl,d3⟩
  · obtain ⟨r3,u3,e3,_,d3⟩:=yjb u2 [0,2,6,(-1)] d2 (by simp)
    simp only [cond_true,e3,zky]
    exact ⟨_,_,rfl,d3⟩
end
section
def ykD:Code:=(Tryz.f205.body).getD .skip
def yo5:Env:=zki TT [(124,yD),(174,ypY)] []
theorem yIk:FrOk Tryz.prog ⟨yo5,18,fun _=>none⟩ ykD:=zkp ye yf ⟨yL,yyS,trivial⟩
def yxV:Nat→Option Seg:=fun _=>none
def ybX:Shape:=⟨[(0,false,[.ptr 1000000000 0]),(3,false,[.at 800000000]),(4,false,[.int .i64])],[(1000000000,[.fz tY,.int .i64,.int .i64])],[(800000000,tI,.fz)]⟩
def yf2:Shape:=⟨[(0,false,[.ptr 1000000000 0]),(3,false,[.at 800000000]),(4,false,[.int .i64])],[(1000000000,[.fz tY,.int .i64,.int .i64])],[(800000000,tI,.fz)]⟩
def yfL:Shape:=⟨[(3,false,[.at 800000000])],[(1000000000,[.fz tY,.int .i64,.int .i64])],[(800000000,tI,.fz)]⟩
def yjY:Shape:=⟨[],[],[]⟩
abbrev yok (v0:Int) (v1:dU) (v2:List Int):(ybX).X:=((((),()),((),()),(v0,()),()),((v1.1,v1.2.1,v1.2.2,()),()),(v2,()))
abbrev yFH (v0:Int) (v1:dU) (v2:List Int):(yf2).X:=((((),()),((),()),(v0,()),()),((v1.1,v1.2.1,v1.2.2,()),()),(v2,()))
abbrev yFu (v0:dU) (v1:List Int):(yfL).X:=((((),()),()),((v0.1,v0.2.1,v0.2.2,()),()),(v1,()))
def yoE (v0:Int) (v1:List Int) (v2:Int) (v3:Int) (v4:List Int):Option ((ybX).X ⊕ ((yfL).X ⊕ (yjY).X)) :=
  bif (ltb 0 v0) then
    bnd (yQ (v1,v2,v3)) fun r3 =>
    bif (zj4 v4.length ([r3.1.1]:List Int).length 8) then
      some (.inl ((((),()),((),()),((IntKind.i64.wrap (v0 - 1)),()),()),((r3.2.1.1,r3.2.1.2.1,r3.2.1.2.2,()),()),((v4++([r3.1.1]:List Int)),())))
    else none
  else
    some (.inr (.inl ((((),()),()),((v1,v2,v3,()),()),(v4,()))))
def ycn (x:(ybX).X):=yoE x.1.2.2.1.1 x.2.1.1.1 x.2.1.1.2.1 x.2.1.1.2.2.1 x.2.2.1
def yuB (x:(yf2).X):(ybX).X:=((((),()),((),()),(x.1.2.2.1.1,()),()),((x.2.1.1.1,x.2.1.1.2.1,x.2.1.1.2.2.1,()),()),(x.2.2.1,()))
def ywB:Code:=(zdI ykD 64 116).getD .skip
theorem yHr:zdI ykD 64 29=some (.block 0 (.loop ywB)):=by kernel_rfl
theorem yJ7 (x:(ybX).X):zg7 ⟨yo5,18,yxV⟩ 0 ywB 116 ybX yfL yjY x=ycn x:=by kernel_rfl
def yuT (x:(yf2).X):Nat:=(fun (u0:Int) (u1:List Int) (u2:Int) (u3:Int) (u4:List Int)=>18446744073709551616) x.1.2.2.1.1 x.2.1.1.1 x.2.1.1.2.1 x.2.1.1.2.2.1 x.2.2.1
def ypm (x:(yf2).X):Option ((yfL).X ⊕ (yjY).X):=zr ycn (yuT x) (yuB x)
def yvu:Seg:=⟨yf2,yfL,yjY,ypm⟩
def yxW:Nat→Option Seg:=fun q=>bif Nat.beq q 29 then some yvu else yxV q
theorem yIl:FrOk Tryz.prog ⟨yo5,18,yxW⟩ ykD:=(yIk).loop (sg:=yvu) ybX yuB (by decide) yHr ycn yuT (by decide) (fun _=>rfl) (fun x r _ h=>h) yJ7
abbrev ykT:List Par:= [.pt tU .fz]
abbrev ypL:List OT:= [⟨false,tL,(.ow .fz)⟩]
def yby (a0:dU):Option (ResD ypL×MutD ykT) :=
  bnd (ya a0 5) fun r1 =>
  zjw (ypm ((((),()),((),()),(r1.1.1,()),()),((r1.2.1.1,r1.2.1.2.1,r1.2.1.2.2,()),()),(([]:List Int),()))) (fun y3 =>
    some ((y3.2.2.1,()),((y3.2.1.1.1,y3.2.1.1.2.1,y3.2.1.1.2.2.1),()))) (fun y3 =>
    none)
theorem yOE (x:InD ykT):zjH ⟨yo5,18,yxW⟩ Tryz.f205.results.toList ykD ykT ypL x=yby x.1:=by kernel_rfl
theorem yLL:ConOk Tryz.prog 205 ⟨ykT,ypL,fun x=>yby x.1⟩:=zkh (yIl) Tryz.func205 (by kernel_rfl) (by kernel_rfl) Tryz.ntmps205.symm (by decide) (fun x r h=>(yOE x).trans h)
def ylJ:Con:=⟨ykT,ypL,fun x=>yby x.1⟩
theorem ysl:ConOk Tryz.prog 205 ylJ:=yLL
theorem yMx: ∀ (n:Nat) (u:dU) (l:List Int) (fuel:Nat),n < fuel→yM u→n+l.length≤1000 →
    ∃ (u':dU) (l':List Int),zr ycn fuel (yok n u l)=some (.inl (yFu u' l'))∧yM u'∧l'.length=n+l.length
  | 0,u,l,fuel+1,_,hu,_=>⟨u,l,by simp only [zr,ycn,yok,yoE]; rfl,hu,by omega⟩
  | n+1,u,l,fuel+1,hf,hu,hl=>by
    obtain ⟨x,u1,e1,_,d1⟩:=yPt u hu
    obtain ⟨u',l',e2,d2,h2⟩:=yMx n u1 (l++ [x]) fuel (by omega) d1 (by rw [List.length_append]; simp only [List.length_cons,List.length_nil]; omega)
    refine ⟨u',l',?_,d2,by rw [h2,List.length_append]; simp only [List.length_cons,List.length_nil]; omega⟩
    rw [← e2,zr]
    simp only [ycn,yok,yoE,zjI (show (0:Int) < ((n+1:Nat):Int) by omega),cond_true,zkV,e1,zky,show ((n+1:Nat):Int) - 1=(n:Int) by omega,wr (show -9223372036854775808≤(n:Int) by omega) (by omega),
      zkw.2 (show (l.length+ [x].length) * 8≤140737488355328 by simp only [List.length_cons,List.length_nil]; omega)]
theorem yEr (u:dU) (h:yM u): ∃ (l:List Int) (u':dU),yby u=some ((l,()),(u',()))∧l.length≤4∧yM u':=by
  obtain ⟨r1,u1,e1,q1,d1⟩:=yB u 5 h
  have:=q1.1; have:=q1.2.1 (by omega)
  obtain ⟨u',l',e2,d2,h2⟩:=yMx r1.toNat u1 [] 18446744073709551616 (by omega) d1 (by simp only [List.length_nil]; omega)
  rw [show ((r1.toNat:Nat):Int)=r1 by omega]at e2
  unfold yby
  simp only [e1,zky]
  refine ⟨l',u',?_,by rw [h2]; simp only [List.length_nil]; omega,d2⟩
  exact (congrArg (fun z=>zjw z _ _) (show ypm (yFH r1 u1 [])=_ from e2)).trans rfl
end
section
def yAZ:Code:=(Tryz.f204.body).getD .skip
def yBg:Env:=zki TT [(109,ycU),(124,yD),(205,ylJ)] []
theorem yIg:FrOk Tryz.prog ⟨yBg,23,fun _=>none⟩ yAZ:=zkp ye yf ⟨yfs,yL,ysl,trivial⟩
def yKp:Nat→Option Seg:=fun _=>none
abbrev ykR:List Par:= [.pt tU .fz]
abbrev ypI:List OT:= [⟨false,tL,(.ow .fz)⟩]
def ybx (a0:dU):Option (ResD ypI×MutD ykR) :=
  bnd (yby a0) fun r1 =>
  bnd (ya r1.2.1 10) fun r2 =>
  bif (r2.1.1==0) then
    bnd (yy r2.2.1 ([(-1),65536]:List Int)) fun r3 =>
    bif (zj4 r1.1.1.length ([r3.1.1]:List Int).length 8) then
      some (((r1.1.1++([r3.1.1]:List Int)),()),(r3.2.1,()))
    else none
  else
    bif (r2.1.1==1) then
      bnd (ya r2.2.1 2) fun r4 =>
      bif (zkc (IntKind.i64.wrap (12+r4.1.1)) 8) then
        some (((List.replicate ((IntKind.i64.wrap (12+r4.1.1))).toNat (0:Int)),()),(r4.2.1,()))
      else none
    else
      some ((r1.1.1,()),(r2.2.1,()))
theorem yOB (x:InD ykR):zjH ⟨yBg,23,yKp⟩ Tryz.f204.results.toList yAZ ykR ypI x=ybx x.1:=by kernel_rfl
theorem yLI:ConOk Tryz.prog 204 ⟨ykR,ypI,fun x=>ybx x.1⟩:=zkh (yIg) Tryz.func204 (by kernel_rfl) (by kernel_rfl) Tryz.ntmps204.symm (by decide) (fun x r h=>(yOB x).trans h)
def yq2:Con:=⟨ykR,ypI,fun x=>ybx x.1⟩
theorem yAq:ConOk Tryz.prog 204 yq2:=yLI
theorem yEq (u:dU) (h:yM u): ∃ (l:List Int) (u':dU),ybx u=some ((l,()),(u',()))∧l.length≤14∧yM u':=by
  unfold ybx
  obtain ⟨l,u1,e1,q1,d1⟩:=yEr u h
  obtain ⟨r,u2,e2,q2,d2⟩:=yB u1 10 d1
  simp only [e1,e2,zky]
  cases (r==0)
  · cases (r==1)
    · exact ⟨_,_,rfl,by omega,d2⟩
    · obtain ⟨r3,u3,e3,q3,d3⟩:=yB u2 2 d2
      have:=q3.1; have:=q3.2.1 (by omega)
      have hm:zkc (IntKind.i64.wrap (12+r3)) 8=true:=by rw [wr (by omega) (by omega),zkH]; omega
      simp only [cond_true,cond_false,e3,zky,hm]
      exact ⟨_,_,rfl,by simp only [List.length_replicate]; rw [wr (by omega) (by omega)]; omega,d3⟩
  · obtain ⟨r3,u3,e3,q3,d3⟩:=yjb u2 [(-1),65536] d2 (by simp)
    simp only [cond_true,e3,zky]
    rw [zkw.2 (show (l.length+ [r3].length) * 8≤140737488355328 by simp only [List.length_cons,List.length_nil]; omega)]
    exact ⟨_,_,rfl,by simp only [List.length_append,List.length_cons,List.length_nil]; omega,d3⟩
end
section
def yiI:Code:=(Tryz.f250.body).getD .skip
def ym7:Env:=zki TT [(120,ymm),(124,yD),(190,yj5),(205,ylJ),(265,ymn),(266,ymj)] []
theorem yE5:FrOk Tryz.prog ⟨ym7,43,fun _=>none⟩ yiI:=zkp ye yf ⟨yvc,yL,yq7,ysl,yvd,yu9,trivial⟩
def yv0:Nat→Option Seg:=fun _=>none
def ybe:Shape:=⟨[(0,false,[.ptr 1000000000 0]),(2,false,[.ptr 0 0]),(3,false,[.ptr 4352 0]),(4,false,[.int .i64])],[(0,[.nil,.nil,.bool,.nil]),(4352,[.at 800000000,.at 800000001,.bool,.at 800000002]),(1000000000,[.fz tY,.int .i64,.int .i64])],[(800000000,tL,.fz),(800000001,tW,(.pr .fz .fz)),(800000002,tI,.fz)]⟩
def yeK:Shape:=⟨[(0,false,[.ptr 1000000000 0]),(2,false,[.ptr 0 0]),(3,false,[.ptr 4352 0]),(4,false,[.int .i64])],[(0,[.nil,.nil,.bool,.nil]),(4352,[.at 800000000,.at 800000001,.bool,.at 800000002]),(1000000000,[.fz tY,.int .i64,.int .i64])],[(800000000,tL,.fz),(800000001,tW,(.pr .fz .fz)),(800000002,tI,.fz)]⟩
def yex:Shape:=⟨[(2,false,[.ptr 0 0]),(3,false,[.ptr 4352 0])],[(0,[.nil,.nil,.bool,.nil]),(4352,[.at 800000000,.at 800000001,.bool,.at 800000002]),(1000000000,[.fz tY,.int .i64,.int .i64])],[(800000000,tL,.fz),(800000001,tW,(.pr .fz .fz)),(800000002,tI,.fz)]⟩
def yid:Shape:=⟨[],[],[]⟩
abbrev ydO (v0:Int) (v1:dM) (v2:dM) (v3:dU):(ybe).X:=((((),()),((),()),((),()),(v0,()),()),(((),(),v1.2.2.1,(),()),((),(),v2.2.2.1,(),()),(v3.1,v3.2.1,v3.2.2,()),()),(v2.1,v2.2.1,v2.2.2.2,()))
abbrev yDo (v0:Int) (v1:dM) (v2:dM) (v3:dU):(yeK).X:=((((),()),((),()),((),()),(v0,()),()),(((),(),v1.2.2.1,(),()),((),(),v2.2.2.1,(),()),(v3.1,v3.2.1,v3.2.2,()),()),(v2.1,v2.2.1,v2.2.2.2,()))
abbrev yDd (v0:dM) (v1:dM) (v2:dU):(yex).X:=((((),()),((),()),()),(((),(),v0.2.2.1,(),()),((),(),v1.2.2.1,(),()),(v2.1,v2.2.1,v2.2.2,()),()),(v1.1,v1.2.1,v1.2.2.2,()))
def ymK (v0:Int) (v1:Bool) (v2:Bool) (v3:List Int) (v4:Int) (v5:Int) (v6:List (List Int)) (v7:List dW) (v8:List Int):Option ((ybe).X ⊕ ((yex).X ⊕ (yid).X)) :=
  bif (ltb 0 v0) then
    bnd (ya (v3,v4,v5) 6) fun r11 =>
    bif (r11.1.1==0) then
      let r12:=yb6 (v6,v7,v2,v8)
      some (.inl ((((),()),((),()),((),()),((IntKind.i64.wrap (v0 - 1)),()),()),(((),(),v1,(),()),((),(),r12.2.2.1,(),()),(r11.2.1.1,r11.2.1.2.1,r11.2.1.2.2,()),()),(r12.1,r12.2.1,r12.2.2.2,())))
    else
      bif (r11.1.1==1) then
        bnd (ya r11.2.1 (v6.length:Int)) fun r13 =>
        let r14:=yi (v6,v7,v2,v8) r13.1.1
        some (.inl ((((),()),((),()),((),()),((IntKind.i64.wrap (v0 - 1)),()),()),(((),(),v1,(),()),((),(),r14.2.2.1,(),()),(r13.2.1.1,r13.2.1.2.1,r13.2.1.2.2,()),()),(r14.1,r14.2.1,r14.2.2.2,())))
      else
        bnd (ya r11.2.1 (v6.length:Int)) fun r15 =>
        bnd (yby r15.2.1) fun r16 =>
        let r17:=yb8 (v6,v7,v2,v8) r15.1.1 r16.1.1
        some (.inl ((((),()),((),()),((),()),((IntKind.i64.wrap (v0 - 1)),()),()),(((),(),v1,(),()),((),(),r17.1.2.2.1,(),()),(r16.2.1.1,r16.2.1.2.1,r16.2.1.2.2,()),()),(r17.1.1,r17.1.2.1,r17.1.2.2.2,())))
  else
    some (.inr (.inl ((((),()),((),()),()),(((),(),v1,(),()),((),(),v2,(),()),(v3,v4,v5,()),()),(v6,v7,v8,()))))
def yaH (x:(ybe).X):=ymK x.1.2.2.2.1.1 x.2.1.1.2.2.1 x.2.1.2.1.2.2.1 x.2.1.2.2.1.1 x.2.1.2.2.1.2.1 x.2.1.2.2.1.2.2.1 x.2.2.1 x.2.2.2.1 x.2.2.2.2.1
def ysW (x:(yeK).X):(ybe).X:=((((),()),((),()),((),()),(x.1.2.2.2.1.1,()),()),(((),(),x.2.1.1.2.2.1,(),()),((),(),x.2.1.2.1.2.2.1,(),()),(x.2.1.2.2.1.1,x.2.1.2.2.1.2.1,x.2.1.2.2.1.2.2.1,()),()),(x.2.2.1,x.2.2.2.1,x.2.2.2.2.1,()))
def yt9:Code:=(zdI yiI 64 116).getD .skip
theorem yEk:zdI yiI 64 29=some (.block 0 (.loop yt9)):=by kernel_rfl
theorem yGH (x:(ybe).X):zg7 ⟨ym7,43,yv0⟩ 0 yt9 116 ybe yex yid x=yaH x:=by kernel_rfl
def ys9 (x:(yeK).X):Nat:=(fun (u0:Int) (u1:Bool) (u2:Bool) (u3:List Int) (u4:Int) (u5:Int) (u6:List (List Int)) (u7:List dW) (u8:List Int)=>18446744073709551616) x.1.2.2.2.1.1 x.2.1.1.2.2.1 x.2.1.2.1.2.2.1 x.2.1.2.2.1.1 x.2.1.2.2.1.2.1 x.2.1.2.2.1.2.2.1 x.2.2.1 x.2.2.2.1 x.2.2.2.2.1
def yn1 (x:(yeK).X):Option ((yex).X ⊕ (yid).X):=zr yaH (ys9 x) (ysW x)
def ytr:Seg:=⟨yeK,yex,yid,yn1⟩
def yv1:Nat→Option Seg:=fun q=>bif Nat.beq q 29 then some ytr else yv0 q
theorem yE6:FrOk Tryz.prog ⟨ym7,43,yv1⟩ yiI:=(yE5).loop (sg:=ytr) ybe ysW (by decide) yEk yaH ys9 (by decide) (fun _=>rfl) (fun x r _ h=>h) yGH
abbrev yi3:List Par:= [.pt tU .fz]
abbrev ynE:List OT:= [⟨false,tM,(.pr (.ow .fz) (.pr (.ow (.pr .fz .fz)) (.pr .fz (.ow .fz))))⟩]
def ydq (a0:dU):Option (ResD ynE×MutD yi3) :=
  bnd (ya a0 5) fun r1 =>
  let r2:=yaJ (IntKind.i64.wrap (3+r1.1.1))
  bnd (ya r1.2.1 8) fun r3 =>
  zjw (yn1 ((((),()),((),()),((),()),(r3.1.1,()),()),(((),(),false,(),()),((),(),r2.2.2.1,(),()),(r3.2.1.1,r3.2.1.2.1,r3.2.1.2.2,()),()),(r2.1,r2.2.1,r2.2.2.2,()))) (fun y17 =>
    some (((y17.2.2.1,y17.2.2.2.1,y17.2.1.2.1.2.2.1,y17.2.2.2.2.1),()),((y17.2.1.2.2.1.1,y17.2.1.2.2.1.2.1,y17.2.1.2.2.1.2.2.1),()))) (fun y17 =>
    none)
theorem yNj (x:InD yi3):zjH ⟨ym7,43,yv1⟩ Tryz.f250.results.toList yiI yi3 ynE x=ydq x.1:=by kernel_rfl
theorem yJv:ConOk Tryz.prog 250 ⟨yi3,ynE,fun x=>ydq x.1⟩:=zkh (yE6) Tryz.func250 (by kernel_rfl) (by kernel_rfl) Tryz.ntmps250.symm (by decide) (fun x r h=>(yNj x).trans h)
def ywZ:Con:=⟨yi3,ynE,fun x=>ydq x.1⟩
theorem yMf:ConOk Tryz.prog 250 ywZ:=yJv
theorem yMz: ∀ (n:Nat) (m:dM) (u:dU) (fuel:Nat),n < fuel→n≤1000→yM u→yz m=true →
    ∃ (m':dM) (u':dU),zr yaH fuel (ydO n yg m u)=some (.inl (yDd yg m' u'))∧yM u'∧yz m'=true
  | 0,m,u,fuel+1,_,_,hu,h=>⟨m,u,by simp only [zr,yaH,ydO,ymK]; rfl,hu,h⟩
  | n+1,m,u,fuel+1,hf,hn,hu,h=>by
    have hlen:=(yaI h).2.2.2
    have key: ∃ (m1:dM) (u1:dU),yaH (ydO ((n+1:Nat):Int) yg m u)=some (.inl (ydO (n:Int) yg m1 u1))∧yM u1∧yz m1=true:=by
      obtain ⟨r,u1,e1,_,d1⟩:=yB u 6 hu
      simp only [yaH,ydO,ymK,zjI (show (0:Int) < ((n+1:Nat):Int) by omega),cond_true,zkV,e1,zky,show ((n+1:Nat):Int) - 1=(n:Int) by omega,wr (show -9223372036854775808≤(n:Int) by omega) (by omega)]
      cases (r==0)
      · obtain ⟨i,u2,e2,q2,d2⟩:=yB u1 (m.1.length:Int) d1
        cases (r==1)
        · obtain ⟨s,u3,e3,_,d3⟩:=yEr u2 d2
          simp only [cond_false,e2,zky,e3,yb8]
          exact ⟨(ygG m i s).1,u3,rfl,d3,yGM i s h⟩
        · simp only [cond_false,cond_true,e2,zky,yi]
          exact ⟨yrv m i,u2,rfl,d2,yO5 i h⟩
      · simp only [cond_true,yb6]
        exact ⟨ygz m,u1,rfl,d1,yEv h⟩
    obtain ⟨m1,u1,e1,d1,h1⟩:=key
    obtain ⟨m',u',e2,d2,h2⟩:=yMz n m1 u1 fuel (by omega) (by omega) d1 h1
    exact ⟨m',u',by rw [← e2,zr,e1],d2,h2⟩
theorem yP1 (u:dU) (h:yM u): ∃ (m:dM) (u':dU),ydq u=some ((m,()),(u',()))∧yz m=true∧yM u':=by
  obtain ⟨r1,u1,e1,q1,d1⟩:=yB u 5 h
  obtain ⟨r3,u3,e3,q3,d3⟩:=yB u1 8 d1
  have:=q1.1; have:=q1.2.1 (by omega); have:=q3.1; have:=q3.2.1 (by omega)
  obtain ⟨m',u',e4,d4,h4⟩:=yMz r3.toNat (ycJ (3+r1)) u3 18446744073709551616 (by omega) (by omega) d3 (yBS (by omega) (by omega))
  rw [show ((r3.toNat:Nat):Int)=r3 by omega]at e4
  unfold ydq
  simp only [e1,e3,zky,wr (show -9223372036854775808≤3+r1 by omega) (by omega),yaJ]
  refine ⟨m',u',?_,h4,d4⟩
  exact (congrArg (fun z=>zjw z _ _) (show yn1 (yDo r3 yg (ycJ (3+r1)) u3)=_ from e4)).trans rfl
end
end
end Go.Tf
