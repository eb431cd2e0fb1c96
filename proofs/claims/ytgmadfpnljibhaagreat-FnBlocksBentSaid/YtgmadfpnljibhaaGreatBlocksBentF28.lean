/- Functions of the program, and what they come to. -/
import Derived.Test.YtgmadfpnljibhaaGreatBlocksBentF27
namespace Go.Tf
noncomputable section
open Go.Proofs
set_option synthInstance.maxHeartbeats 400000
set_option synthInstance.maxSize 10000
set_option linter.unusedVariables false
set_option linter.unusedSimpArgs false
set_option maxRecDepth 100000
section
def yNg:Code:=(Tryz.f217.body).getD .skip
def yNC:Env:=zj3 TT [(150,yz)] []
theorem yXV:FrOk Tryz.prog ⟨yNC,10,fun _=>none⟩ yNg:=zj7 yb yc ⟨yO,trivial⟩
def yZ6:Nat→Option Seg:=fun _=>none
abbrev yrg:List Par:= [.pt tU .fz]
abbrev yxg:List OT:= [⟨false,tG,(.pr .fz .fz)⟩]
def yhG (a0:dU):Option (ResD yxg×MutD yrg) :=
 bnd (yd a0 3) fun r1 =>
 bnd (yd r1.2.1 8) fun r2 =>
 some ((((IntKind.i64.wrap (3+r1.1.1)),(IntKind.i64.wrap (1+r2.1.1))),()),(r2.2.1,()))
theorem y4M (x:InD yrg):zjx ⟨yNC,10,yZ6⟩ Tryz.f217.results.toList yNg yrg yxg x=yhG x.1:=by kernel_rfl
theorem y1M:ConOk Tryz.prog 217 ⟨yrg,yxg,fun x=>yhG x.1⟩:=zj2 (yXV) Tryz.func217 (by kernel_rfl) (by kernel_rfl) Tryz.ntmps217.symm (by decide) (fun x r h=>(y4M x).trans h)
def yJq:Con:=⟨yrg,yxg,fun x=>yhG x.1⟩
theorem y4c:ConOk Tryz.prog 217 yJq:=y1M
theorem y7u (u:List Int×Int×Int) (h:yG u): ∃ (g:Int×Int) (u':List Int×Int×Int),yhG u=some ((g,()),(u',()))∧yg g=true∧yG u':=by
 unfold yhG
 obtain ⟨r1,u1,e1,q1,d1⟩:=yA u 3 h
 obtain ⟨r2,u2,e2,q2,d2⟩:=yA u1 8 d1
 simp only [e1,e2,zkd]
 refine ⟨_,_,rfl,?_,d2⟩
 have:=q1.2.1 (by omega); have:=q2.2.1 (by omega); have:=q1.1; have:=q2.1
 rw [wr (by omega) (by omega),wr (by omega) (by omega)]
 exact yk.2 ⟨⟨by show 3≤3+r1; omega,by show 3+r1≤5; omega⟩,by show 1≤1+r2; omega,by show 1+r2≤8; omega⟩
end
section
def yNf:Code:=(Tryz.f125.body).getD .skip
def yNB:Env:=zj3 TT [(124,ybC),(150,yz),(217,yJq)] []
theorem yXU:FrOk Tryz.prog ⟨yNB,21,fun _=>none⟩ yNf:=zj7 yb yc ⟨yey,yO,y4c,trivial⟩
def yZ5:Nat→Option Seg:=fun _=>none
abbrev yrf:List Par:= [.pt tU .fz]
abbrev yxf:List OT:= [⟨false,tG,(.pr .fz .fz)⟩]
def yhF (a0:dU):Option (ResD yxf×MutD yrf) :=
 bnd (yhG a0) fun r1 =>
 bnd (yd r1.2.1 8) fun r2 =>
 bif (r2.1.1==0) then
 bnd (yr r2.2.1 ([0,2,6,(-1)]:List Int)) fun r3 =>
 some (((r3.1.1,r1.1.1.2),()),(r3.2.1,()))
 else
 bif (r2.1.1==1) then
 bnd (yr r2.2.1 ([0,9,(-1)]:List Int)) fun r4 =>
 some (((r1.1.1.1,r4.1.1),()),(r4.2.1,()))
 else
 some ((r1.1.1,()),(r2.2.1,()))
theorem y4L (x:InD yrf):zjx ⟨yNB,21,yZ5⟩ Tryz.f125.results.toList yNf yrf yxf x=yhF x.1:=by kernel_rfl
theorem y1L:ConOk Tryz.prog 125 ⟨yrf,yxf,fun x=>yhF x.1⟩:=zj2 (yXU) Tryz.func125 (by kernel_rfl) (by kernel_rfl) Tryz.ntmps125.symm (by decide) (fun x r h=>(y4L x).trans h)
def yJp:Con:=⟨yrf,yxf,fun x=>yhF x.1⟩
theorem y4b:ConOk Tryz.prog 125 yJp:=y1L
theorem y6W (u:dU) (h:yG u): ∃ (g:dG) (u':dU),yhF u=some ((g,()),(u',()))∧yG u':=by
 unfold yhF
 obtain ⟨g,u1,e1,_,d1⟩:=y7u u h
 obtain ⟨r,u2,e2,_,d2⟩:=yA u1 8 d1
 simp only [e1,e2,zkd]
 cases (r==0)
 ·cases (r==1)
  ·exact ⟨_,_,rfl,d2⟩
  ·obtain ⟨r3,u3,e3,_,d3⟩:=ykr u2 [0,9,(-1)] d2 (by simp)
   simp only [cond_true,cond_false,e3,zkd]
   exact ⟨_,_,rfl,d3⟩
 ·obtain ⟨r3,u3,e3,_,d3⟩:=ykr u2 [0,2,6,(-1)] d2 (by simp)
  simp only [cond_true,e3,zkd]
  exact ⟨_,_,rfl,d3⟩
end
section
def yqK:Code:=(Tryz.f213.body).getD .skip
def ywy:Env:=zj3 TT [(115,yxB),(150,yz)] []
theorem yXO:FrOk Tryz.prog ⟨ywy,18,fun _=>none⟩ yqK:=zj7 yb yc ⟨yJX,yO,trivial⟩
def yIK:Nat→Option Seg:=fun _=>none
def ydF:Shape:=⟨[(0,false,[.ptr 1000000000 0]),(3,false,[.at 800000000]),(4,false,[.int .i64])],[(1000000000,[.fz tY,.int .i64,.int .i64])],[(800000000,tI,.fz)]⟩
def yjT:Shape:=⟨[(0,false,[.ptr 1000000000 0]),(3,false,[.at 800000000]),(4,false,[.int .i64])],[(1000000000,[.fz tY,.int .i64,.int .i64])],[(800000000,tI,.fz)]⟩
def yjE:Shape:=⟨[(3,false,[.at 800000000])],[(1000000000,[.fz tY,.int .i64,.int .i64])],[(800000000,tI,.fz)]⟩
def yp4:Shape:=⟨[],[],[]⟩
abbrev yvx (v0:Int) (v1:dU) (v2:List Int):(ydF).X:=((((),()),((),()),(v0,()),()),((v1.1,v1.2.1,v1.2.2,()),()),(v2,()))
abbrev yUf (v0:Int) (v1:dU) (v2:List Int):(yjT).X:=((((),()),((),()),(v0,()),()),((v1.1,v1.2.1,v1.2.2,()),()),(v2,()))
abbrev yT4 (v0:dU) (v1:List Int):(yjE).X:=((((),()),()),((v0.1,v0.2.1,v0.2.2,()),()),(v1,()))
def yvW (v0:Int) (v1:List Int) (v2 v3:Int) (v4:List Int):Option ((ydF).X ⊕ ((yjE).X ⊕ (yp4).X)) :=
 bif (ltb 0 v0) then
 bnd (yai (v1,v2,v3)) fun r3 =>
 bif (zjR v4.length ([r3.1.1]:List Int).length 8) then
 some (.inl ((((),()),((),()),((IntKind.i64.wrap (v0 - 1)),()),()),((r3.2.1.1,r3.2.1.2.1,r3.2.1.2.2,()),()),((v4++([r3.1.1]:List Int)),())))
 else none
 else
 some (.inr (.inl ((((),()),()),((v1,v2,v3,()),()),(v4,()))))
def yej (x:(ydF).X):=yvW x.1.2.2.1.1 x.2.1.1.1 x.2.1.1.2.1 x.2.1.1.2.2.1 x.2.2.1
def yEK (x:(yjT).X):(ydF).X:=((((),()),((),()),(x.1.2.2.1.1,()),()),((x.2.1.1.1,x.2.1.1.2.1,x.2.1.1.2.2.1,()),()),(x.2.2.1,()))
def yHb:Code:=(zdD yqK 64 116).getD .skip
theorem yWx:zdD yqK 64 29=some (.block 0 (.loop yHb)):=by kernel_rfl
theorem yZM (x:(ydF).X):zg0 ⟨ywy,18,yIK⟩ 0 yHb 116 ydF yjE yp4 x=yej x:=by kernel_rfl
def yE0 (x:(yjT).X):Nat:=18446744073709551616
def ywN (x:(yjT).X):Option ((yjE).X ⊕ (yp4).X):=zz yej (yE0 x) (yEK x)
def yFL:Seg:=⟨yjT,yjE,yp4,ywN⟩
def yIL:Nat→Option Seg:=fun q=>bif Nat.beq q 29 then some yFL else yIK q
theorem yXP:FrOk Tryz.prog ⟨ywy,18,yIL⟩ yqK:=(yXO).loop (sg:=yFL) ydF yEK (by decide) yWx yej yE0 (by decide) (fun _=>rfl) (fun x r _ h=>h) yZM
abbrev yrd:List Par:= [.pt tU .fz]
abbrev yxc:List OT:= [⟨false,tL,(.ow .fz)⟩]
def ydg (a0:dU):Option (ResD yxc×MutD yrd) :=
 bnd (yd a0 5) fun r1 =>
 zjZ (ywN ((((),()),((),()),(r1.1.1,()),()),((r1.2.1.1,r1.2.1.2.1,r1.2.1.2.2,()),()),(([]:List Int),()))) (fun y3 =>
 some ((y3.2.2.1,()),((y3.2.1.1.1,y3.2.1.1.2.1,y3.2.1.1.2.2.1),()))) (fun y3 =>
 none)
theorem y4I (x:InD yrd):zjx ⟨ywy,18,yIL⟩ Tryz.f213.results.toList yqK yrd yxc x=ydg x.1:=by kernel_rfl
theorem y1I:ConOk Tryz.prog 213 ⟨yrd,yxc,fun x=>ydg x.1⟩:=zj2 (yXP) Tryz.func213 (by kernel_rfl) (by kernel_rfl) Tryz.ntmps213.symm (by decide) (fun x r h=>(y4I x).trans h)
def ysx:Con:=⟨yrd,yxc,fun x=>ydg x.1⟩
theorem yBF:ConOk Tryz.prog 213 ysx:=y1I
theorem y2y: ∀ (n:Nat) (u:dU) (l:List Int) (fuel:Nat),n < fuel→yG u→n+l.length≤1000 →
  ∃ (u':dU) (l':List Int),zz yej fuel (yvx n u l)=some (.inl (yT4 u' l'))∧yG u'∧l'.length=n+l.length
 | 0,u,l,fuel+1,_,hu,_=>⟨u,l,by simp only [zz,yej,yvx,yvW]; rfl,hu,by omega⟩
 | n+1,u,l,fuel+1,hf,hu,hl=>by
  obtain ⟨x,u1,e1,_,d1⟩:=y5H u hu
  obtain ⟨u',l',e2,d2,h2⟩:=y2y n u1 (l++ [x]) fuel (by omega) d1 (by rw [List.length_append]; simp only [List.length_cons,List.length_nil]; omega)
  refine ⟨u',l',?_,d2,by rw [h2,List.length_append]; simp only [List.length_cons,List.length_nil]; omega⟩
  rw [← e2,zz]
  simp only [yej,yvx,yvW,zj5 (show (0:Int) < ((n+1:Nat):Int) by omega),cond_true,zks,e1,zkd,show ((n+1:Nat):Int) - 1=(n:Int) by omega,wr (show -9223372036854775808≤(n:Int) by omega) (by omega),
   zkb.2 (show (l.length+ [x].length) * 8≤140737488355328 by simp only [List.length_cons,List.length_nil]; omega)]
theorem yST (u:dU) (h:yG u): ∃ (l:List Int) (u':dU),ydg u=some ((l,()),(u',()))∧l.length≤4∧yG u':=by
 obtain ⟨r1,u1,e1,q1,d1⟩:=yA u 5 h
 have:=q1.1; have:=q1.2.1 (by omega)
 obtain ⟨u',l',e2,d2,h2⟩:=y2y r1.toNat u1 [] 18446744073709551616 (by omega) d1 (by simp only [List.length_nil]; omega)
 rw [show ((r1.toNat:Nat):Int)=r1 by omega]at e2
 unfold ydg
 simp only [e1,zkd]
 refine ⟨l',u',?_,by rw [h2]; simp only [List.length_nil]; omega,d2⟩
 exact (congrArg (fun z=>zjZ z _ _) (show ywN (yUf r1 u1 [])=_ from e2)).trans rfl
end
section
def yNd:Code:=(Tryz.f212.body).getD .skip
def yNz:Env:=zj3 TT [(124,ybC),(150,yz),(213,ysx)] []
theorem yXK:FrOk Tryz.prog ⟨yNz,23,fun _=>none⟩ yNd:=zj7 yb yc ⟨yey,yO,yBF,trivial⟩
def yZ3:Nat→Option Seg:=fun _=>none
abbrev yrb:List Par:= [.pt tU .fz]
abbrev yw9:List OT:= [⟨false,tL,(.ow .fz)⟩]
def ydf (a0:dU):Option (ResD yw9×MutD yrb) :=
 bnd (ydg a0) fun r1 =>
 bnd (yd r1.2.1 10) fun r2 =>
 bif (r2.1.1==0) then
 bnd (yr r2.2.1 ([(-1),65536]:List Int)) fun r3 =>
 bif (zjR r1.1.1.length ([r3.1.1]:List Int).length 8) then
 some (((r1.1.1++([r3.1.1]:List Int)),()),(r3.2.1,()))
 else none
 else
 bif (r2.1.1==1) then
 bnd (yd r2.2.1 2) fun r4 =>
 bif (zjY (IntKind.i64.wrap (12+r4.1.1)) 8) then
 some (((List.replicate ((IntKind.i64.wrap (12+r4.1.1))).toNat (0:Int)),()),(r4.2.1,()))
 else none
 else
 some ((r1.1.1,()),(r2.2.1,()))
theorem y4F (x:InD yrb):zjx ⟨yNz,23,yZ3⟩ Tryz.f212.results.toList yNd yrb yw9 x=ydf x.1:=by kernel_rfl
theorem y1F:ConOk Tryz.prog 212 ⟨yrb,yw9,fun x=>ydf x.1⟩:=zj2 (yXK) Tryz.func212 (by kernel_rfl) (by kernel_rfl) Tryz.ntmps212.symm (by decide) (fun x r h=>(y4F x).trans h)
def yzz:Con:=⟨yrb,yw9,fun x=>ydf x.1⟩
theorem yL2:ConOk Tryz.prog 212 yzz:=y1F
theorem ySS (u:dU) (h:yG u): ∃ (l:List Int) (u':dU),ydf u=some ((l,()),(u',()))∧l.length≤14∧yG u':=by
 unfold ydf
 obtain ⟨l,u1,e1,q1,d1⟩:=yST u h
 obtain ⟨r,u2,e2,q2,d2⟩:=yA u1 10 d1
 simp only [e1,e2,zkd]
 cases (r==0)
 ·cases (r==1)
  ·exact ⟨_,_,rfl,by omega,d2⟩
  ·obtain ⟨r3,u3,e3,q3,d3⟩:=yA u2 2 d2
   have:=q3.1; have:=q3.2.1 (by omega)
   have hm:zjY (IntKind.i64.wrap (12+r3)) 8=true:=by rw [wr (by omega) (by omega),zkh]; omega
   simp only [cond_true,cond_false,e3,zkd,hm]
   exact ⟨_,_,rfl,by simp only [List.length_replicate]; rw [wr (by omega) (by omega)]; omega,d3⟩
 ·obtain ⟨r3,u3,e3,q3,d3⟩:=ykr u2 [(-1),65536] d2 (by simp)
  simp only [cond_true,e3,zkd]
  rw [zkb.2 (show (l.length+ [r3].length) * 8≤140737488355328 by simp only [List.length_cons,List.length_nil]; omega)]
  exact ⟨_,_,rfl,by simp only [List.length_append,List.length_cons,List.length_nil]; omega,d3⟩
end
section
def ynU:Code:=(Tryz.f266.body).getD .skip
def yt6:Env:=zj3 TT [(138,yqd),(150,yz),(213,ysx),(264,ytj),(265,yth),(286,yte)] []
theorem yTB:FrOk Tryz.prog ⟨yt6,43,fun _=>none⟩ ynU:=zj7 yb yc ⟨yzI,yO,yBF,yFr,yFp,yFm,trivial⟩
def yGs:Nat→Option Seg:=fun _=>none
def ycL:Shape:=⟨[(0,false,[.ptr 1000000000 0]),(2,false,[.ptr 0 0]),(3,false,[.ptr 4352 0]),(4,false,[.int .i64])],[(0,[.nil,.nil,.bool,.nil]),(4352,[.at 800000000,.at 800000001,.bool,.at 800000002]),(1000000000,[.fz tY,.int .i64,.int .i64])],[(800000000,tL,.fz),(800000001,tW,(.pr .fz .fz)),(800000002,tI,.fz)]⟩
def yh9:Shape:=⟨[(0,false,[.ptr 1000000000 0]),(2,false,[.ptr 0 0]),(3,false,[.ptr 4352 0]),(4,false,[.int .i64])],[(0,[.nil,.nil,.bool,.nil]),(4352,[.at 800000000,.at 800000001,.bool,.at 800000002]),(1000000000,[.fz tY,.int .i64,.int .i64])],[(800000000,tL,.fz),(800000001,tW,(.pr .fz .fz)),(800000002,tI,.fz)]⟩
def yhX:Shape:=⟨[(2,false,[.ptr 0 0]),(3,false,[.ptr 4352 0])],[(0,[.nil,.nil,.bool,.nil]),(4352,[.at 800000000,.at 800000001,.bool,.at 800000002]),(1000000000,[.fz tY,.int .i64,.int .i64])],[(800000000,tL,.fz),(800000001,tW,(.pr .fz .fz)),(800000002,tI,.fz)]⟩
def ynd:Shape:=⟨[],[],[]⟩
abbrev yg2 (v0:Int) (v1 v2:dM) (v3:dU):(ycL).X:=((((),()),((),()),((),()),(v0,()),()),(((),(),v1.2.2.1,(),()),((),(),v2.2.2.1,(),()),(v3.1,v3.2.1,v3.2.2,()),()),(v2.1,v2.2.1,v2.2.2.2,()))
abbrev yRf (v0:Int) (v1 v2:dM) (v3:dU):(yh9).X:=((((),()),((),()),((),()),(v0,()),()),(((),(),v1.2.2.1,(),()),((),(),v2.2.2.1,(),()),(v3.1,v3.2.1,v3.2.2,()),()),(v2.1,v2.2.1,v2.2.2.2,()))
abbrev yQ5 (v0 v1:dM) (v2:dU):(yhX).X:=((((),()),((),()),()),(((),(),v0.2.2.1,(),()),((),(),v1.2.2.1,(),()),(v2.1,v2.2.1,v2.2.2,()),()),(v1.1,v1.2.1,v1.2.2.2,()))
def ytJ (v0:Int) (v1 v2:Bool) (v3:List Int) (v4 v5:Int) (v6:List (List Int)) (v7:List dW) (v8:List Int):Option ((ycL).X ⊕ ((yhX).X ⊕ (ynd).X)) :=
 bif (ltb 0 v0) then
 bnd (yd (v3,v4,v5) 6) fun r11 =>
 bif (r11.1.1==0) then
 let r12:=ydV (v6,v7,v2,v8)
 some (.inl ((((),()),((),()),((),()),((IntKind.i64.wrap (v0 - 1)),()),()),(((),(),v1,(),()),((),(),r12.2.2.1,(),()),(r11.2.1.1,r11.2.1.2.1,r11.2.1.2.2,()),()),(r12.1,r12.2.1,r12.2.2.2,())))
 else
 bif (r11.1.1==1) then
 bnd (yd r11.2.1 (v6.length:Int)) fun r13 =>
 let r14:=yga (v6,v7,v2,v8) r13.1.1
 some (.inl ((((),()),((),()),((),()),((IntKind.i64.wrap (v0 - 1)),()),()),(((),(),v1,(),()),((),(),r14.2.2.1,(),()),(r13.2.1.1,r13.2.1.2.1,r13.2.1.2.2,()),()),(r14.1,r14.2.1,r14.2.2.2,())))
 else
 bnd (yd r11.2.1 (v6.length:Int)) fun r15 =>
 bnd (ydg r15.2.1) fun r16 =>
 let r17:=ydY (v6,v7,v2,v8) r15.1.1 r16.1.1
 some (.inl ((((),()),((),()),((),()),((IntKind.i64.wrap (v0 - 1)),()),()),(((),(),v1,(),()),((),(),r17.1.2.2.1,(),()),(r16.2.1.1,r16.2.1.2.1,r16.2.1.2.2,()),()),(r17.1.1,r17.1.2.1,r17.1.2.2.2,())))
 else
 some (.inr (.inl ((((),()),((),()),()),(((),(),v1,(),()),((),(),v2,(),()),(v3,v4,v5,()),()),(v6,v7,v8,()))))
def ybx (x:(ycL).X):=ytJ x.1.2.2.2.1.1 x.2.1.1.2.2.1 x.2.1.2.1.2.2.1 x.2.1.2.2.1.1 x.2.1.2.2.1.2.1 x.2.1.2.2.1.2.2.1 x.2.2.1 x.2.2.2.1 x.2.2.2.2.1
def yCN (x:(yh9).X):(ycL).X:=((((),()),((),()),((),()),(x.1.2.2.2.1.1,()),()),(((),(),x.2.1.1.2.2.1,(),()),((),(),x.2.1.2.1.2.2.1,(),()),(x.2.1.2.2.1.1,x.2.1.2.2.1.2.1,x.2.1.2.2.1.2.2.1,()),()),(x.2.2.1,x.2.2.2.1,x.2.2.2.2.1,()))
def yEh:Code:=(zdD ynU 64 116).getD .skip
theorem ySM:zdD ynU 64 29=some (.block 0 (.loop yEh)):=by kernel_rfl
theorem yVG (x:(ycL).X):zg0 ⟨yt6,43,yGs⟩ 0 yEh 116 ycL yhX ynd x=ybx x:=by kernel_rfl
def yCZ (x:(yh9).X):Nat:=18446744073709551616
def yvb (x:(yh9).X):Option ((yhX).X ⊕ (ynd).X):=zz ybx (yCZ x) (yCN x)
def yDh:Seg:=⟨yh9,yhX,ynd,yvb⟩
def yGt:Nat→Option Seg:=fun q=>bif Nat.beq q 29 then some yDh else yGs q
theorem yTC:FrOk Tryz.prog ⟨yt6,43,yGt⟩ ynU:=(yTB).loop (sg:=yDh) ycL yCN (by decide) ySM ybx yCZ (by decide) (fun _=>rfl) (fun x r _ h=>h) yVG
abbrev yoj:List Par:= [.pt tU .fz]
abbrev yuF:List OT:= [⟨false,tM,(.pr (.ow .fz) (.pr (.ow (.pr .fz .fz)) (.pr .fz (.ow .fz))))⟩]
def ygg (a0:dU):Option (ResD yuF×MutD yoj) :=
 bnd (yd a0 5) fun r1 =>
 let r2:=ybA (IntKind.i64.wrap (3+r1.1.1))
 bnd (yd r1.2.1 8) fun r3 =>
 zjZ (yvb ((((),()),((),()),((),()),(r3.1.1,()),()),(((),(),false,(),()),((),(),r2.2.2.1,(),()),(r3.2.1.1,r3.2.1.2.1,r3.2.1.2.2,()),()),(r2.1,r2.2.1,r2.2.2.2,()))) (fun y17 =>
 some (((y17.2.2.1,y17.2.2.2.1,y17.2.1.2.1.2.2.1,y17.2.2.2.2.1),()),((y17.2.1.2.2.1.1,y17.2.1.2.2.1.2.1,y17.2.1.2.2.1.2.2.1),()))) (fun y17 =>
 none)
theorem y3p (x:InD yoj):zjx ⟨yt6,43,yGt⟩ Tryz.f266.results.toList ynU yoj yuF x=ygg x.1:=by kernel_rfl
theorem yY5:ConOk Tryz.prog 266 ⟨yoj,yuF,fun x=>ygg x.1⟩:=zj2 (yTC) Tryz.func266 (by kernel_rfl) (by kernel_rfl) Tryz.ntmps266.symm (by decide) (fun x r h=>(y3p x).trans h)
def yHs:Con:=⟨yoj,yuF,fun x=>ygg x.1⟩
theorem y2c:ConOk Tryz.prog 266 yHs:=yY5
theorem y2A: ∀ (n:Nat) (m:dM) (u:dU) (fuel:Nat),n < fuel→n≤1000→yG u→yw m=true →
  ∃ (m':dM) (u':dU),zz ybx fuel (yg2 n noMem m u)=some (.inl (yQ5 noMem m' u'))∧yG u'∧yw m'=true
 | 0,m,u,fuel+1,_,_,hu,h=>⟨m,u,by simp only [zz,ybx,yg2,ytJ]; rfl,hu,h⟩
 | n+1,m,u,fuel+1,hf,hn,hu,h=>by
  have hlen:=(yby h).2.2.2
  have key: ∃ (m1:dM) (u1:dU),ybx (yg2 ((n+1:Nat):Int) noMem m u)=some (.inl (yg2 (n:Int) noMem m1 u1))∧yG u1∧yw m1=true:=by
   obtain ⟨r,u1,e1,_,d1⟩:=yA u 6 hu
   simp only [ybx,yg2,ytJ,zj5 (show (0:Int) < ((n+1:Nat):Int) by omega),cond_true,zks,e1,zkd,show ((n+1:Nat):Int) - 1=(n:Int) by omega,wr (show -9223372036854775808≤(n:Int) by omega) (by omega)]
   cases (r==0)
   ·obtain ⟨i,u2,e2,q2,d2⟩:=yA u1 (m.1.length:Int) d1
    cases (r==1)
    ·obtain ⟨s,u3,e3,_,d3⟩:=yST u2 d2
     simp only [cond_false,e2,zkd,e3,ydY]
     exact ⟨(ygv m i s).1,u3,rfl,d3,yVO i s h⟩
    ·simp only [cond_false,cond_true,e2,zkd,yga]
     exact ⟨spoil m i,u2,rfl,d2,y5g i h⟩
   ·simp only [cond_true,ydV]
    exact ⟨ye4 m,u1,rfl,d1,yS1 h⟩
  obtain ⟨m1,u1,e1,d1,h1⟩:=key
  obtain ⟨m',u',e2,d2,h2⟩:=y2A n m1 u1 fuel (by omega) (by omega) d1 h1
  exact ⟨m',u',by rw [← e2,zz,e1],d2,h2⟩
theorem y6p (u:dU) (h:yG u): ∃ (m:dM) (u':dU),ygg u=some ((m,()),(u',()))∧yw m=true∧yG u':=by
 obtain ⟨r1,u1,e1,q1,d1⟩:=yA u 5 h
 obtain ⟨r3,u3,e3,q3,d3⟩:=yA u1 8 d1
 have:=q1.1; have:=q1.2.1 (by omega); have:=q3.1; have:=q3.2.1 (by omega)
 obtain ⟨m',u',e4,d4,h4⟩:=y2A r3.toNat (yeQ (3+r1)) u3 18446744073709551616 (by omega) (by omega) d3 (y2F (by omega) (by omega))
 rw [show ((r3.toNat:Nat):Int)=r3 by omega]at e4
 unfold ygg
 simp only [e1,e3,zkd,wr (show -9223372036854775808≤3+r1 by omega) (by omega),ybA]
 refine ⟨m',u',?_,h4,d4⟩
 exact (congrArg (fun z=>zjZ z _ _) (show yvb (yRf r3 noMem (yeQ (3+r1)) u3)=_ from e4)).trans rfl
end
section
def yqL:Code:=(Tryz.f211.body).getD .skip
def ywz:Env:=zj3 TT [(124,ybC),(150,yz),(212,yzz),(232,yvi),(266,yHs)] [(25088,(.pr .fz .fz)),(53440,(.pr .fz .fz)),(61440,.fz)]
theorem yXQ:FrOk Tryz.prog ⟨ywz,62,fun _=>none⟩ yqL:=zj7 yb yc ⟨yey,yO,yL2,yHK,y2c,trivial⟩
def yIM:Nat→Option Seg:=fun _=>none
def ybs:Shape:=⟨[(0,false,[.ptr 1000000000 0]),(2,false,[.ptr 0 0]),(3,false,[.ptr 4224 0])],[(0,[.nil,.nil,.bool,.nil]),(4224,[.at 800000000,.at 800000001,.bool,.at 800000002]),(1000000000,[.fz tY,.int .i64,.int .i64])],[(800000000,tL,.fz),(800000001,tW,(.pr .fz .fz)),(800000002,tI,.fz)]⟩
def yfD:Shape:=⟨[(0,false,[.ptr 1000000000 0]),(2,false,[.ptr 0 0]),(3,false,[.ptr 4224 0])],[(0,[.nil,.nil,.bool,.nil]),(4224,[.at 800000000,.at 800000001,.bool,.at 800000002]),(1000000000,[.fz tY,.int .i64,.int .i64])],[(800000000,tL,.fz),(800000001,tW,(.pr .fz .fz)),(800000002,tI,.fz)]⟩
def yfv:Shape:=⟨[(2,false,[.ptr 0 0]),(3,false,[.ptr 4224 0])],[(0,[.nil,.nil,.bool,.nil]),(4224,[.at 800000000,.at 800000001,.bool,.at 800000002]),(1000000000,[.fz tY,.int .i64,.int .i64])],[(800000000,tL,.fz),(800000001,tW,(.pr .fz .fz)),(800000002,tI,.fz)]⟩
def ykl:Shape:=⟨[],[],[]⟩
abbrev yiK (v0 v1:dM) (v2:dU):(ybs).X:=((((),()),((),()),((),()),()),(((),(),v0.2.2.1,(),()),((),(),v1.2.2.1,(),()),(v2.1,v2.2.1,v2.2.2,()),()),(v1.1,v1.2.1,v1.2.2.2,()))
abbrev yMI (v0 v1:dM) (v2:dU):(yfD).X:=((((),()),((),()),((),()),()),(((),(),v0.2.2.1,(),()),((),(),v1.2.2.1,(),()),(v2.1,v2.2.1,v2.2.2,()),()),(v1.1,v1.2.1,v1.2.2.2,()))
abbrev yMA (v0 v1:dM) (v2:dU):(yfv).X:=((((),()),((),()),()),(((),(),v0.2.2.1,(),()),((),(),v1.2.2.1,(),()),(v2.1,v2.2.1,v2.2.2,()),()),(v1.1,v1.2.1,v1.2.2.2,()))
def yiP (v0 v1:Bool) (v2:List Int) (v3 v4:Int) (v5:List (List Int)) (v6:List dW) (v7:List Int):Option ((ybs).X ⊕ ((yfv).X ⊕ (ykl).X)) :=
 bnd (yd (v2,v3,v4) 3) fun r9 =>
 bif (ltb (v6.length:Int) (IntKind.i64.wrap (59+r9.1.1))) then
 bif (zjR v6.length ([(0,[])]:List dW).length 32) then
 some (.inl ((((),()),((),()),((),()),()),(((),(),v0,(),()),((),(),v1,(),()),(r9.2.1.1,r9.2.1.2.1,r9.2.1.2.2,()),()),(v5,(v6++([(0,[])]:List dW)),v7,())))
 else none
 else
 some (.inr (.inl ((((),()),((),()),()),(((),(),v0,(),()),((),(),v1,(),()),(r9.2.1.1,r9.2.1.2.1,r9.2.1.2.2,()),()),(v5,v6,v7,()))))
def yaD (x:(ybs).X):=yiP x.2.1.1.2.2.1 x.2.1.2.1.2.2.1 x.2.1.2.2.1.1 x.2.1.2.2.1.2.1 x.2.1.2.2.1.2.2.1 x.2.2.1 x.2.2.2.1 x.2.2.2.2.1
def yy0 (x:(yfD).X):(ybs).X:=((((),()),((),()),((),()),()),(((),(),x.2.1.1.2.2.1,(),()),((),(),x.2.1.2.1.2.2.1,(),()),(x.2.1.2.2.1.1,x.2.1.2.2.1.2.1,x.2.1.2.2.1.2.2.1,()),()),(x.2.2.1,x.2.2.2.1,x.2.2.2.2.1,()))
def yAv:Code:=(zdD yqL 64 241656).getD .skip
theorem yNQ:zdD yqL 64 60414=some (.block 1 (.loop yAv)):=by kernel_rfl
theorem yPB (x:(ybs).X):zg0 ⟨ywz,62,yIM⟩ 1 yAv 241656 ybs yfv ykl x=yaD x:=by kernel_rfl
def yy9 (x:(yfD).X):Nat:=18446744073709551616
def yq3 (x:(yfD).X):Option ((yfv).X ⊕ (ykl).X):=zz yaD (yy9 x) (yy0 x)
def yzn:Seg:=⟨yfD,yfv,ykl,yq3⟩
def yIN:Nat→Option Seg:=fun q=>bif Nat.beq q 60414 then some yzn else yIM q
theorem yXR:FrOk Tryz.prog ⟨ywz,62,yIN⟩ yqL:=(yXQ).loop (sg:=yzn) ybs yy0 (by decide) yNQ yaD yy9 (by decide) (fun _=>rfl) (fun x r _ h=>h) yPB
abbrev yre:List Par:= [.pt tU .fz]
abbrev yxd:List OT:= [⟨false,tM,(.pr (.ow .fz) (.pr (.ow (.pr .fz .fz)) (.pr .fz (.ow .fz))))⟩]
def yhE (a0:dU):Option (ResD yxd×MutD yre) :=
 bnd (ygg a0) fun r1 =>
 bnd (yd r1.2.1 14) fun r2 =>
 bif (r2.1.1==0) then
 bnd (ydf r2.2.1) fun r3 =>
 bif (inb 0 r1.1.1.1.length) then
 some ((((r1.1.1.1.set (0:Int).toNat r3.1.1),r1.1.1.2),()),(r3.2.1,()))
 else none
 else
 bif (r2.1.1==1) then
 bnd (yr r2.2.1 ([(-1),0,9]:List Int)) fun r4 =>
 bnd (ydf r4.2.1) fun r5 =>
 bif (zjR r1.1.1.2.1.length ([(r4.1.1,r5.1.1)]:List dW).length 32) then
 some (((r1.1.1.1,(r1.1.1.2.1++([(r4.1.1,r5.1.1)]:List dW)),r1.1.1.2.2),()),(r5.2.1,()))
 else none
 else
 bif (r2.1.1==2) then
 bnd (yr r2.2.1 ([(-1),0,9]:List Int)) fun r6 =>
 bif (zjR r1.1.1.2.2.2.length ([r6.1.1]:List Int).length 8) then
 some (((r1.1.1.1,r1.1.1.2.1,r1.1.1.2.2.1,(r1.1.1.2.2.2++([r6.1.1]:List Int))),()),(r6.2.1,()))
 else none
 else
 bif (r2.1.1==3) then
 let r7:=ymE r1.1.1
 some ((r7,()),(r2.2.1,()))
 else
 bif (r2.1.1==4) then
 zjZ (yq3 ((((),()),((),()),((),()),()),(((),(),false,(),()),((),(),r1.1.1.2.2.1,(),()),(r2.2.1.1,r2.2.1.2.1,r2.2.1.2.2,()),()),(r1.1.1.1,r1.1.1.2.1,r1.1.1.2.2.2,()))) (fun y9 =>
 some (((y9.2.2.1,y9.2.2.2.1,y9.2.1.2.1.2.2.1,y9.2.2.2.2.1),()),((y9.2.1.2.2.1.1,y9.2.1.2.2.1.2.1,y9.2.1.2.2.1.2.2.1),()))) (fun y9 =>
 none)
 else
 bif (r2.1.1==5) then
 some (((([]:List (List Int)),r1.1.1.2),()),(r2.2.1,()))
 else
 some ((r1.1.1,()),(r2.2.1,()))
theorem y4J (x:InD yre):zjx ⟨ywz,62,yIN⟩ Tryz.f211.results.toList yqL yre yxd x=yhE x.1:=by kernel_rfl
theorem y1J:ConOk Tryz.prog 211 ⟨yre,yxd,fun x=>yhE x.1⟩:=zj2 (yXR) Tryz.func211 (by kernel_rfl) (by kernel_rfl) Tryz.ntmps211.symm (by decide) (fun x r h=>(y4J x).trans h)
def yJo:Con:=⟨yre,yxd,fun x=>yhE x.1⟩
theorem y4a:ConOk Tryz.prog 211 yJo:=y1J
theorem y2z: ∀ (n:Nat) (m:dM) (u:dU) (fuel:Nat),n < fuel→yG u→m.2.1.length+n=62∨(n=0∧61≤m.2.1.length∧m.2.1.length≤100) →
  ∃ (m':dM) (u':dU),zz yaD fuel (yiK noMem m u)=some (.inl (yMA noMem m' u'))∧yG u'∧m'.1=m.1∧m'.2.1.length≤100
 | 0,m,u,fuel+1,_,hu,hn=>by
  obtain ⟨r,u1,e1,q1,d1⟩:=yA u 3 hu
  have:=q1.1; have:=q1.2.1 (by omega)
  refine ⟨m,u1,?_,d1,rfl,by omega⟩
  rw [zz]
  simp only [yaD,yiK,yiP,zks,e1,zkd,wr (show -9223372036854775808≤59+r by omega) (by omega),zky (show 59+r≤(m.2.1.length:Int) by omega),cond_false]
 | n+1,m,u,fuel+1,hf,hu,hn=>by
  obtain ⟨r,u1,e1,q1,d1⟩:=yA u 3 hu
  have:=q1.1; have:=q1.2.1 (by omega)
  by_cases hlt:(m.2.1.length:Int) < 59+r
  ·obtain ⟨m',u',e2,d2,l2⟩:=y2z n (m.1,m.2.1++ [(0,[])],m.2.2) u1 fuel (by omega) d1 (.inl (by
    show (m.2.1++ [((0:Int),([]:List Int))]).length+n=62
    rw [List.length_append]; simp only [List.length_cons,List.length_nil]; omega))
   refine ⟨m',u',?_,d2,l2⟩
   rw [← e2,zz]
   simp only [yaD,yiK,yiP,zks,e1,zkd,wr (show -9223372036854775808≤59+r by omega) (by omega),zj5 hlt,cond_true,zkb.2 (show (m.2.1.length+ [((0:Int),([]:List Int))].length) * 32≤140737488355328 by simp only [List.length_cons,List.length_nil]; omega)]
  ·refine ⟨m,u1,?_,d1,rfl,by omega⟩
   rw [zz]
   simp only [yaD,yiK,yiP,zks,e1,zkd,wr (show -9223372036854775808≤59+r by omega) (by omega),zky (show 59+r≤(m.2.1.length:Int) by omega),cond_false]
theorem y6V (u:dU) (h:yG u): ∃ (m:dM) (u':dU),yhE u=some ((m,()),(u',()))∧(m.1.length≤100∧m.2.1.length≤100)∧yG u':=by
 unfold yhE
 obtain ⟨m,u1,e1,q1,d1⟩:=y6p u h
 obtain ⟨r,u2,e2,_,d2⟩:=yA u1 14 d1
 obtain ⟨h1,h2,h3,h4,h5,h6⟩:=yby q1
 rw [yro]at h3
 have hlen:=yPH h3.2 (lo:=0) (n:=m.1.length) h3.1 (by omega)
 simp only [e1,e2,zkd]
 cases (r==0)
 ·cases (r==1)
  ·cases (r==2)
   ·cases (r==3)
    ·cases (r==4)
     ·cases (r==5)
      ·exact ⟨_,_,rfl,by omega,d2⟩
      ·exact ⟨_,_,rfl,⟨Nat.zero_le _,by show m.2.1.length≤100; omega⟩,d2⟩
     ·obtain ⟨m',u',e3,d3,l3,l4⟩:=y2z (62 - m.2.1.length) m u2 18446744073709551616 (by omega) d2 (.inl (by omega))
      simp only [cond_true,cond_false]
      refine ⟨m',u',?_,⟨by rw [l3]; omega,l4⟩,d3⟩
      exact (congrArg (fun z=>zjZ z _ _) (show yq3 (yMI noMem m u2)=_ from e3)).trans rfl
    ·exact ⟨_,_,rfl,⟨by show m.1.length≤100; omega,Nat.zero_le _⟩,d2⟩
   ·obtain ⟨x,u3,e3,_,d3⟩:=ykr u2 [(-1),0,9] d2 (by simp)
    simp only [cond_true,cond_false,e3,zkd]
    rw [zkb.2 (show (m.2.2.2.length+ [x].length) * 8≤140737488355328 by simp only [List.length_cons,List.length_nil]; omega)]
    exact ⟨_,_,rfl,⟨by show m.1.length≤100; omega,by show m.2.1.length≤100; omega⟩,d3⟩
  ·obtain ⟨x,u3,e3,_,d3⟩:=ykr u2 [(-1),0,9] d2 (by simp)
   obtain ⟨l,u4,e4,_,d4⟩:=ySS u3 d3
   simp only [cond_true,cond_false,e3,zkd,e4]
   rw [zkb.2 (show (m.2.1.length+ [(x,l)].length) * 32≤140737488355328 by simp only [List.length_cons,List.length_nil]; omega)]
   exact ⟨_,_,rfl,⟨by show m.1.length≤100; omega,by show (m.2.1++ [(x,l)]).length≤100; rw [List.length_append]; simp only [List.length_cons,List.length_nil]; omega⟩,d4⟩
 ·obtain ⟨l,u3,e3,_,d3⟩:=ySS u2 d2
  simp only [cond_true,e3,zkd]
  rw [show inb 0 m.1.length=true from zkm (i:=0) (by omega)]
  exact ⟨_,_,rfl,⟨by show (m.1.set _ _).length≤100; rw [List.length_set]; omega,by show m.2.1.length≤100; omega⟩,d3⟩
end
end
end Go.Tf
