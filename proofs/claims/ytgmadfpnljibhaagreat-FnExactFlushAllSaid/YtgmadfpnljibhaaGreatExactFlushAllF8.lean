/- Functions of the program, and what they come to. -/
import Derived.Test.YtgmadfpnljibhaaGreatExactFlushAllF7
namespace Go.Tf
noncomputable section
open Go.Proofs
set_option synthInstance.maxHeartbeats 400000
set_option synthInstance.maxSize 10000
set_option linter.unusedVariables false
set_option linter.unusedSimpArgs false
set_option maxRecDepth 100000
section
def ym4:Code:=(Tryz.f261.body).getD .skip
def ys2:Env:=zki TT [(263,yAj),(286,yBA)] []
theorem yRj:FrOk Tryz.prog ⟨ys2,39,fun _=>none⟩ ym4:=zkp yb yc ⟨yM7,ySL,trivial⟩
def yFI:Nat→Option Seg:=fun _=>none
def yc1:Shape:=⟨[(0,false,[.ptr 1000000000 0]),(2,false,[.int .i64])],[(1000000000,[.int .i64,.int .i64,.int .i64,.at 800000000,.int .i64,.int .i64,.int .i64,.int .i64,.int .i64,.at 800000001,.int .i64,.bool,.bool])],[(800000000,tM,(.pr (.ow .fz) (.pr (.ow (.pr .fz .fz)) (.pr .fz (.ow .fz))))),(800000001,tW,(.pr .fz .fz))]⟩
def yiP:Shape:=⟨[(0,false,[.ptr 1000000000 0]),(2,false,[.ci .i64 0])],[(1000000000,[.int .i64,.int .i64,.int .i64,.at 800000000,.int .i64,.int .i64,.int .i64,.int .i64,.int .i64,.at 800000001,.int .i64,.bool,.bool])],[(800000000,tM,(.pr (.ow .fz) (.pr (.ow (.pr .fz .fz)) (.pr .fz (.ow .fz))))),(800000001,tW,(.pr .fz .fz))]⟩
def yiw:Shape:=⟨[],[(1000000000,[.int .i64,.int .i64,.int .i64,.at 800000000,.int .i64,.int .i64,.int .i64,.int .i64,.int .i64,.at 800000001,.int .i64,.bool,.bool])],[(800000000,tM,(.pr (.ow .fz) (.pr (.ow (.pr .fz .fz)) (.pr .fz (.ow .fz))))),(800000001,tW,(.pr .fz .fz))]⟩
def yo0:Shape:=⟨[],[],[]⟩
abbrev yum (v0:Int) (v1:dA):(yc1).X:=((((),()),(v0,()),()),((v1.1,v1.2.1.1,v1.2.1.2,(),v1.2.2.2.1,v1.2.2.2.2.1,v1.2.2.2.2.2.1,v1.2.2.2.2.2.2.1,v1.2.2.2.2.2.2.2.1,(),v1.2.2.2.2.2.2.2.2.2.1,v1.2.2.2.2.2.2.2.2.2.2.1,v1.2.2.2.2.2.2.2.2.2.2.2,()),()),(v1.2.2.1,v1.2.2.2.2.2.2.2.2.1,()))
abbrev yRG (v0:dA):(yiP).X:=((((),()),((),()),()),((v0.1,v0.2.1.1,v0.2.1.2,(),v0.2.2.2.1,v0.2.2.2.2.1,v0.2.2.2.2.2.1,v0.2.2.2.2.2.2.1,v0.2.2.2.2.2.2.2.1,(),v0.2.2.2.2.2.2.2.2.2.1,v0.2.2.2.2.2.2.2.2.2.2.1,v0.2.2.2.2.2.2.2.2.2.2.2,()),()),(v0.2.2.1,v0.2.2.2.2.2.2.2.2.1,()))
abbrev yEt (v0:dA):(yiw).X:=((),((v0.1,v0.2.1.1,v0.2.1.2,(),v0.2.2.2.1,v0.2.2.2.2.1,v0.2.2.2.2.2.1,v0.2.2.2.2.2.2.1,v0.2.2.2.2.2.2.2.1,(),v0.2.2.2.2.2.2.2.2.2.1,v0.2.2.2.2.2.2.2.2.2.2.1,v0.2.2.2.2.2.2.2.2.2.2.2,()),()),(v0.2.2.1,v0.2.2.2.2.2.2.2.2.1,()))
def yuM (v0 v1 v2 v3 v4 v5 v6 v7 v8 v9:Int) (v10 v11:Bool) (v12:List dM) (v13:List dW):Option ((yc1).X ⊕ ((yiw).X ⊕ (yo0).X)) :=
 bif (ltb v0 (v12.length:Int)) then
 bif (inb v0 v12.length) then
 bif (!((((nth v12 v0 ([],[],false,[])).2).2).1)) then
 let r3:=ysN (v1,(v2,v3),v12,v4,v5,v6,v7,v8,v13,v9,v10,v11)
 bif r3.1 then
 bif (inb v0 r3.2.2.2.1.length) then
 let r4:=yjp ((nth r3.2.2.2.1 v0 ([],[],false,[])).1,((nth r3.2.2.2.1 v0 ([],[],false,[])).2).1,(((nth r3.2.2.2.1 v0 ([],[],false,[])).2).2))
 bif (inb v0 r3.2.2.2.1.length) then
 some (.inl ((((),()),((IntKind.i64.wrap (v0+1)),()),()),((r3.2.1,r3.2.2.1.1,r3.2.2.1.2,(),r3.2.2.2.2.1,r3.2.2.2.2.2.1,r3.2.2.2.2.2.2.1,r3.2.2.2.2.2.2.2.1,r3.2.2.2.2.2.2.2.2.1,(),r3.2.2.2.2.2.2.2.2.2.2.1,r3.2.2.2.2.2.2.2.2.2.2.2.1,r3.2.2.2.2.2.2.2.2.2.2.2.2,()),()),((r3.2.2.2.1.set (v0).toNat r4),r3.2.2.2.2.2.2.2.2.2.1,())))
 else none
 else none
 else
 some (.inl ((((),()),((IntKind.i64.wrap (v0+1)),()),()),((r3.2.1,r3.2.2.1.1,r3.2.2.1.2,(),r3.2.2.2.2.1,r3.2.2.2.2.2.1,r3.2.2.2.2.2.2.1,r3.2.2.2.2.2.2.2.1,r3.2.2.2.2.2.2.2.2.1,(),r3.2.2.2.2.2.2.2.2.2.2.1,r3.2.2.2.2.2.2.2.2.2.2.2.1,r3.2.2.2.2.2.2.2.2.2.2.2.2,()),()),(r3.2.2.2.1,r3.2.2.2.2.2.2.2.2.2.1,())))
 else
 some (.inl ((((),()),((IntKind.i64.wrap (v0+1)),()),()),((v1,v2,v3,(),v4,v5,v6,v7,v8,(),v9,v10,v11,()),()),(v12,v13,())))
 else none
 else
 some (.inr (.inl ((),((v1,v2,v3,(),v4,v5,v6,v7,v8,(),v9,v10,v11,()),()),(v12,v13,()))))
def ydG (x:(yc1).X):=yuM x.1.2.1.1 x.2.1.1.1 x.2.1.1.2.1 x.2.1.1.2.2.1 x.2.1.1.2.2.2.2.1 x.2.1.1.2.2.2.2.2.1 x.2.1.1.2.2.2.2.2.2.1 x.2.1.1.2.2.2.2.2.2.2.1 x.2.1.1.2.2.2.2.2.2.2.2.1 x.2.1.1.2.2.2.2.2.2.2.2.2.2.1 x.2.1.1.2.2.2.2.2.2.2.2.2.2.2.1 x.2.1.1.2.2.2.2.2.2.2.2.2.2.2.2.1 x.2.2.1 x.2.2.2.1
def yD2 (x:(yiP).X):(yc1).X:=((((),()),(0,()),()),((x.2.1.1.1,x.2.1.1.2.1,x.2.1.1.2.2.1,(),x.2.1.1.2.2.2.2.1,x.2.1.1.2.2.2.2.2.1,x.2.1.1.2.2.2.2.2.2.1,x.2.1.1.2.2.2.2.2.2.2.1,x.2.1.1.2.2.2.2.2.2.2.2.1,(),x.2.1.1.2.2.2.2.2.2.2.2.2.2.1,x.2.1.1.2.2.2.2.2.2.2.2.2.2.2.1,x.2.1.1.2.2.2.2.2.2.2.2.2.2.2.2.1,()),()),(x.2.2.1,x.2.2.2.1,()))
def yGb:Code:=(zdI ym4 64 12).getD .skip
theorem yTO:zdI ym4 64 3=some (.block 0 (.loop yGb)):=by kernel_rfl
theorem yWW (x:(yc1).X):zg7 ⟨ys2,39,yFI⟩ 0 yGb 12 yc1 yiw yo0 x=ydG x:=by kernel_rfl
def yEj (x:(yiP).X):Nat:=18446744073709551616
def yvt (x:(yiP).X):Option ((yiw).X ⊕ (yo0).X):=zr ydG (yEj x) (yD2 x)
def yEU:Seg:=⟨yiP,yiw,yo0,yvt⟩
def yFJ:Nat→Option Seg:=fun q=>bif Nat.beq q 3 then some yEU else yFI q
theorem yRk:FrOk Tryz.prog ⟨ys2,39,yFJ⟩ ym4:=(yRj).loop (sg:=yEU) yc1 yD2 (by decide) yTO ydG yEj (by decide) (fun _=>rfl) (fun x r _ h=>h) yWW
abbrev yhR:List Par:= [.pt tA (.pr .fz (.pr (.pr .fz .fz) (.pr (.ow (.pr (.ow .fz) (.pr (.ow (.pr .fz .fz)) (.pr .fz (.ow .fz))))) (.pr .fz (.pr .fz (.pr .fz (.pr .fz (.pr .fz (.pr (.ow (.pr .fz .fz)) (.pr .fz (.pr .fz .fz)))))))))))]
abbrev ytB:List OT:= []
def ypy (a0:dA):Option (ResD ytB×MutD yhR) :=
 zjw (yvt ((((),()),((),()),()),((a0.1,a0.2.1.1,a0.2.1.2,(),a0.2.2.2.1,a0.2.2.2.2.1,a0.2.2.2.2.2.1,a0.2.2.2.2.2.2.1,a0.2.2.2.2.2.2.2.1,(),a0.2.2.2.2.2.2.2.2.2.1,a0.2.2.2.2.2.2.2.2.2.2.1,a0.2.2.2.2.2.2.2.2.2.2.2,()),()),(a0.2.2.1,a0.2.2.2.2.2.2.2.2.1,()))) (fun y4 =>
 some ((),((y4.2.1.1.1,(y4.2.1.1.2.1,y4.2.1.1.2.2.1),y4.2.2.1,y4.2.1.1.2.2.2.2.1,y4.2.1.1.2.2.2.2.2.1,y4.2.1.1.2.2.2.2.2.2.1,y4.2.1.1.2.2.2.2.2.2.2.1,y4.2.1.1.2.2.2.2.2.2.2.2.1,y4.2.2.2.1,y4.2.1.1.2.2.2.2.2.2.2.2.2.2.1,y4.2.1.1.2.2.2.2.2.2.2.2.2.2.2.1,y4.2.1.1.2.2.2.2.2.2.2.2.2.2.2.2.1),()))) (fun y4 =>
 none)
theorem y0N (x:InD yhR):zjH ⟨ys2,39,yFJ⟩ Tryz.f261.results.toList ym4 yhR ytB x=ypy x.1:=by kernel_rfl
theorem yWl:ConOk Tryz.prog 261 ⟨yhR,ytB,fun x=>ypy x.1⟩:=zkh (yRk) Tryz.func261 (by kernel_rfl) (by kernel_rfl) Tryz.ntmps261.symm (by decide) (fun x r h=>(y0N x).trans h)
def ydO (a0:dA):dA:=yz a0
theorem yYH (a0:dA) (hk:zi9 yhR (a0,())):ypy a0=(fun n=>some ((),(n,()))) (ydO a0):=by
 have hb:a0.2.2.1.length * 80≤2 ^ 47:=hk.1.2.2.1.1
 have h1:yvt (yRG a0)=some (.inl (yEt (yz a0))) :=
  zks (step:=ydG) a0.2.2.1.length (fun i s=>yum i s) yC (fun _ s=>s.2.2.1.length=a0.2.2.1.length) (fun s=> .inl (yEt s)) (fun i s hi hs=>⟨by
   simp only [ydG,yum,yuM,hs,zjI (show (i:Int) < a0.2.2.1.length by omega),cond_true,wr (show -9223372036854775808≤(i:Int)+1 by omega) (by omega),Int.natCast_add,Int.natCast_one,Int.toNat_natCast,zkO hi,zkV,yW0,yau,yjp,yC,yz2]
   cases (nth s.2.2.1 i yh).2.2.1<;>cases (opA s).1<;>simp only [cond_true,cond_false,Bool.not_true,Bool.not_false,yau,Int.toNat_natCast],(ysP s i).trans hs⟩) (fun s hs=>by simp only [ydG,yum,yuM,hs,zkm (Int.le_refl _),cond_false]) a0 rfl _ (by show _ < 18446744073709551616; omega)
 unfold ypy ydO
 rw [h1]; rfl
def yo6:Con:=⟨yhR,ytB,fun x=>(fun n=>some ((),(n,()))) (ydO x.1)⟩
theorem yya:ConOk Tryz.prog 261 yo6:=(yWl).mono (fun x r hk h=>(yYH x.1 hk).trans h)
end
section
def ym3:Code:=(Tryz.f203.body).getD .skip
def ys1:Env:=zki TT [(140,yBB),(207,yrp),(261,yo6)] []
theorem yRh:FrOk Tryz.prog ⟨ys1,63,fun _=>none⟩ ym3:=zkp yb yc ⟨ySM,yAv,yya,trivial⟩
def yFG:Nat→Option Seg:=fun _=>none
def ycc:Shape:=⟨[(0,false,[.ptr 1000000000 0]),(2,false,[.int .i64])],[(1000000000,[.int .i64,.int .i64,.int .i64,.at 800000000,.int .i64,.int .i64,.int .i64,.int .i64,.int .i64,.at 800000001,.int .i64,.bool,.bool])],[(800000000,tM,(.pr (.ow .fz) (.pr (.ow (.pr .fz .fz)) (.pr .fz (.ow .fz))))),(800000001,tW,(.pr .fz .fz))]⟩
def ygV:Shape:=⟨[(0,false,[.ptr 1000000000 0]),(2,false,[.ci .i64 0])],[(1000000000,[.int .i64,.int .i64,.int .i64,.at 800000000,.int .i64,.int .i64,.int .i64,.int .i64,.int .i64,.at 800000001,.int .i64,.bool,.bool])],[(800000000,tM,(.pr (.ow .fz) (.pr (.ow (.pr .fz .fz)) (.pr .fz (.ow .fz))))),(800000001,tW,(.pr .fz .fz))]⟩
def ygO:Shape:=⟨[(0,false,[.ptr 1000000000 0])],[(1000000000,[.int .i64,.int .i64,.int .i64,.at 800000000,.int .i64,.int .i64,.int .i64,.int .i64,.int .i64,.at 800000001,.int .i64,.bool,.bool])],[(800000000,tM,(.pr (.ow .fz) (.pr (.ow (.pr .fz .fz)) (.pr .fz (.ow .fz))))),(800000001,tW,(.pr .fz .fz))]⟩
def yml:Shape:=⟨[],[],[]⟩
abbrev ysf (v0:Int) (v1:dA):(ycc).X:=((((),()),(v0,()),()),((v1.1,v1.2.1.1,v1.2.1.2,(),v1.2.2.2.1,v1.2.2.2.2.1,v1.2.2.2.2.2.1,v1.2.2.2.2.2.2.1,v1.2.2.2.2.2.2.2.1,(),v1.2.2.2.2.2.2.2.2.2.1,v1.2.2.2.2.2.2.2.2.2.2.1,v1.2.2.2.2.2.2.2.2.2.2.2,()),()),(v1.2.2.1,v1.2.2.2.2.2.2.2.2.1,()))
abbrev yOJ (v0:dA):(ygV).X:=((((),()),((),()),()),((v0.1,v0.2.1.1,v0.2.1.2,(),v0.2.2.2.1,v0.2.2.2.2.1,v0.2.2.2.2.2.1,v0.2.2.2.2.2.2.1,v0.2.2.2.2.2.2.2.1,(),v0.2.2.2.2.2.2.2.2.2.1,v0.2.2.2.2.2.2.2.2.2.2.1,v0.2.2.2.2.2.2.2.2.2.2.2,()),()),(v0.2.2.1,v0.2.2.2.2.2.2.2.2.1,()))
abbrev yCb (v0:dA):(ygO).X:=((((),()),()),((v0.1,v0.2.1.1,v0.2.1.2,(),v0.2.2.2.1,v0.2.2.2.2.1,v0.2.2.2.2.2.1,v0.2.2.2.2.2.2.1,v0.2.2.2.2.2.2.2.1,(),v0.2.2.2.2.2.2.2.2.2.1,v0.2.2.2.2.2.2.2.2.2.2.1,v0.2.2.2.2.2.2.2.2.2.2.2,()),()),(v0.2.2.1,v0.2.2.2.2.2.2.2.2.1,()))
def ysz (v0 v1 v2 v3 v4 v5 v6 v7 v8 v9:Int) (v10 v11:Bool) (v12:List dM) (v13:List dW):Option ((ycc).X ⊕ ((ygO).X ⊕ (yml).X)) :=
 bif (ltb v0 (v12.length:Int)) then
 let r3:=yaJ (v1,v8,v0,v2,v3,v7,v4,v5)
 bnd (yg9 (v1,(v2,v3),v12,v4,v5,v6,v7,v8,v13,v9,v10,v11) v0 (v8.tmod 2) r3) fun r4 =>
 some (.inl ((((),()),((IntKind.i64.wrap (v0+1)),()),()),((r4.2.1.1,r4.2.1.2.1.1,r4.2.1.2.1.2,(),r4.2.1.2.2.2.1,r4.2.1.2.2.2.2.1,r4.2.1.2.2.2.2.2.1,r4.2.1.2.2.2.2.2.2.1,r4.2.1.2.2.2.2.2.2.2.1,(),r4.2.1.2.2.2.2.2.2.2.2.2.1,r4.2.1.2.2.2.2.2.2.2.2.2.2.1,r4.2.1.2.2.2.2.2.2.2.2.2.2.2,()),()),(r4.2.1.2.2.1,r4.2.1.2.2.2.2.2.2.2.2.1,())))
 else
 some (.inr (.inl ((((),()),()),((v1,v2,v3,(),v4,v5,v6,v7,v8,(),v9,v10,v11,()),()),(v12,v13,()))))
def ycJ (x:(ycc).X):=ysz x.1.2.1.1 x.2.1.1.1 x.2.1.1.2.1 x.2.1.1.2.2.1 x.2.1.1.2.2.2.2.1 x.2.1.1.2.2.2.2.2.1 x.2.1.1.2.2.2.2.2.2.1 x.2.1.1.2.2.2.2.2.2.2.1 x.2.1.1.2.2.2.2.2.2.2.2.1 x.2.1.1.2.2.2.2.2.2.2.2.2.2.1 x.2.1.1.2.2.2.2.2.2.2.2.2.2.2.1 x.2.1.1.2.2.2.2.2.2.2.2.2.2.2.2.1 x.2.2.1 x.2.2.2.1
def yBT (x:(ygV).X):(ycc).X:=((((),()),(0,()),()),((x.2.1.1.1,x.2.1.1.2.1,x.2.1.1.2.2.1,(),x.2.1.1.2.2.2.2.1,x.2.1.1.2.2.2.2.2.1,x.2.1.1.2.2.2.2.2.2.1,x.2.1.1.2.2.2.2.2.2.2.1,x.2.1.1.2.2.2.2.2.2.2.2.1,(),x.2.1.1.2.2.2.2.2.2.2.2.2.2.1,x.2.1.1.2.2.2.2.2.2.2.2.2.2.2.1,x.2.1.1.2.2.2.2.2.2.2.2.2.2.2.2.1,()),()),(x.2.2.1,x.2.2.2.1,()))
def yDv:Code:=(zdI ym3 64 52).getD .skip
theorem yQi:zdI ym3 64 13=some (.block 0 (.loop yDv)):=by kernel_rfl
theorem yS8 (x:(ycc).X):zg7 ⟨ys1,63,yFG⟩ 0 yDv 52 ycc ygO yml x=ycJ x:=by kernel_rfl
def yB8 (x:(ygV).X):Nat:=18446744073709551616
def yt3 (x:(ygV).X):Option ((ygO).X ⊕ (yml).X):=zr ycJ (yB8 x) (yBT x)
def yCr:Seg:=⟨ygV,ygO,yml,yt3⟩
def yFH:Nat→Option Seg:=fun q=>bif Nat.beq q 13 then some yCr else yFG q
theorem yRi:FrOk Tryz.prog ⟨ys1,63,yFH⟩ ym3:=(yRh).loop (sg:=yCr) ycc yBT (by decide) yQi ycJ yB8 (by decide) (fun _=>rfl) (fun x r _ h=>h) yS8
abbrev yhQ:List Par:= [.pt tA (.pr .fz (.pr (.pr .fz .fz) (.pr (.ow (.pr (.ow .fz) (.pr (.ow (.pr .fz .fz)) (.pr .fz (.ow .fz))))) (.pr .fz (.pr .fz (.pr .fz (.pr .fz (.pr .fz (.pr (.ow (.pr .fz .fz)) (.pr .fz (.pr .fz .fz)))))))))))]
abbrev ytA:List OT:= []
def ypx (a0:dA):Option (ResD ytA×MutD yhQ) :=
 zjw (yt3 ((((),()),((),()),()),((a0.1,a0.2.1.1,a0.2.1.2,(),a0.2.2.2.1,a0.2.2.2.2.1,a0.2.2.2.2.2.1,a0.2.2.2.2.2.2.1,(IntKind.i64.wrap (a0.2.2.2.2.2.2.2.1+1)),(),a0.2.2.2.2.2.2.2.2.2.1,a0.2.2.2.2.2.2.2.2.2.2.1,a0.2.2.2.2.2.2.2.2.2.2.2,()),()),(a0.2.2.1,a0.2.2.2.2.2.2.2.2.1,()))) (fun y4 =>
 let r6:=ydO (y4.2.1.1.1,(y4.2.1.1.2.1,y4.2.1.1.2.2.1),y4.2.2.1,y4.2.1.1.2.2.2.2.1,y4.2.1.1.2.2.2.2.2.1,y4.2.1.1.2.2.2.2.2.2.1,y4.2.1.1.2.2.2.2.2.2.2.1,y4.2.1.1.2.2.2.2.2.2.2.2.1,y4.2.2.2.1,y4.2.1.1.2.2.2.2.2.2.2.2.2.2.1,y4.2.1.1.2.2.2.2.2.2.2.2.2.2.2.1,y4.2.1.1.2.2.2.2.2.2.2.2.2.2.2.2.1)
 some ((),(r6,()))) (fun y4 =>
 none)
theorem y0M (x:InD yhQ):zjH ⟨ys1,63,yFH⟩ Tryz.f203.results.toList ym3 yhQ ytA x=ypx x.1:=by kernel_rfl
theorem yWk:ConOk Tryz.prog 203 ⟨yhQ,ytA,fun x=>ypx x.1⟩:=zkh (yRi) Tryz.func203 (by kernel_rfl) (by kernel_rfl) Tryz.ntmps203.symm (by decide) (fun x r h=>(y0M x).trans h)
def yhW (a0:dA):dA:=ygd a0
theorem yPP (a:dA) (i:Nat):(yaL a i).2.2.1.length=a.2.2.1.length:=yyb _ _ _ _
theorem yYG (a0:dA) (hk:zi9 yhQ (a0,())):ypx a0=(fun n=>some ((),(n,()))) (yhW a0):=by
 have hb:a0.2.2.1.length * 80≤2 ^ 47:=hk.1.2.2.1.1
 have h1:yt3 (yOJ (ymq a0))=some (.inl (yCb ((List.range a0.2.2.1.length).foldl yaL (ymq a0)))) :=
  zks (step:=ycJ) a0.2.2.1.length (fun i s=>ysf i s) yaL (fun _ s=>s.2.2.1.length=a0.2.2.1.length) (fun s=> .inl (yCb s)) (fun i s hi hs=>⟨by
   simp only [ycJ,ysf,ysz,hs,zjI (show (i:Int) < a0.2.2.1.length by omega),cond_true,wr (show -9223372036854775808≤(i:Int)+1 by omega) (by omega),Int.natCast_add,Int.natCast_one,Int.toNat_natCast,zkV]
   rw [ytN s i (s.2.2.2.2.2.2.2.1.tmod 2) (yaJ (s.1,s.2.2.2.2.2.2.2.1,(i:Int),s.2.1.1,s.2.1.2,s.2.2.2.2.2.2.1,s.2.2.2.1,s.2.2.2.2.1)) (zkO (by rw [hs]; exact hi))]
   rfl,(yPP s i).trans hs⟩) (fun s hs=>by simp only [ycJ,ysf,ysz,hs,zkm (Int.le_refl _),cond_false]) (ymq a0) rfl _ (by show _ < 18446744073709551616; omega)
 unfold ypx yhW ygd
 exact (congrArg (fun z=>zjw z _ _) h1).trans rfl
def yGA:Con:=⟨yhQ,ytA,fun x=>(fun n=>some ((),(n,()))) (yhW x.1)⟩
theorem yZF:ConOk Tryz.prog 203 yGA:=(yWk).mono (fun x r hk h=>(yYG x.1 hk).trans h)
end
section
def yhZ:Code:=(Tryz.f101.body).getD .skip
def yog:Env:=zki TT [(107,yjf),(128,yDA),(201,yBs),(202,yj9)] []
theorem yLU:FrOk Tryz.prog ⟨yog,37,fun _=>none⟩ yhZ:=zkp yb yc ⟨ysh,yWr,ySD,yuo,trivial⟩
def yAI:Nat→Option Seg:=fun _=>none
def yaT:Shape:=⟨[(0,false,[.ptr 1000000000 0]),(15,false,[.int .i64]),(16,false,[.int .i64])],[(1000000000,[.int .i64,.int .i64,.int .i64,.at 800000000,.int .i64,.int .i64,.int .i64,.int .i64,.int .i64,.at 800000001,.int .i64,.bool,.bool])],[(800000000,tM,(.pr (.ow (.ow .fz)) (.pr (.ow (.pr .fz (.ow .fz))) (.pr .fz (.ow .fz))))),(800000001,tW,(.pr .fz (.ow .fz)))]⟩
def yeC:Shape:=⟨[(0,false,[.ptr 1000000000 0]),(15,false,[.int .i64]),(16,false,[.ci .i64 0])],[(1000000000,[.int .i64,.int .i64,.int .i64,.at 800000000,.int .i64,.int .i64,.int .i64,.int .i64,.int .i64,.at 800000001,.int .i64,.bool,.bool])],[(800000000,tM,(.pr (.ow (.ow .fz)) (.pr (.ow (.pr .fz (.ow .fz))) (.pr .fz (.ow .fz))))),(800000001,tW,(.pr .fz (.ow .fz)))]⟩
def yew:Shape:=⟨[(0,false,[.ptr 1000000000 0])],[(1000000000,[.int .i64,.int .i64,.int .i64,.at 800000000,.int .i64,.int .i64,.int .i64,.int .i64,.int .i64,.at 800000001,.int .i64,.bool,.bool])],[(800000000,tM,(.pr (.ow (.ow .fz)) (.pr (.ow (.pr .fz (.ow .fz))) (.pr .fz (.ow .fz))))),(800000001,tW,(.pr .fz (.ow .fz)))]⟩
def yeI:Shape:=⟨[(2,false,[.bool])],[(1000000000,[.int .i64,.int .i64,.int .i64,.at 800000000,.int .i64,.int .i64,.int .i64,.int .i64,.int .i64,.at 800000001,.int .i64,.bool,.bool])],[(800000000,tM,(.pr (.ow (.ow .fz)) (.pr (.ow (.pr .fz (.ow .fz))) (.pr .fz (.ow .fz))))),(800000001,tW,(.pr .fz (.ow .fz)))]⟩
abbrev ynO (v0 v1:Int) (v2:dA):(yaT).X:=((((),()),(v0,()),(v1,()),()),((v2.1,v2.2.1.1,v2.2.1.2,(),v2.2.2.2.1,v2.2.2.2.2.1,v2.2.2.2.2.2.1,v2.2.2.2.2.2.2.1,v2.2.2.2.2.2.2.2.1,(),v2.2.2.2.2.2.2.2.2.2.1,v2.2.2.2.2.2.2.2.2.2.2.1,v2.2.2.2.2.2.2.2.2.2.2.2,()),()),(v2.2.2.1,v2.2.2.2.2.2.2.2.2.1,()))
abbrev yKq (v0:Int) (v1:dA):(yeC).X:=((((),()),(v0,()),((),()),()),((v1.1,v1.2.1.1,v1.2.1.2,(),v1.2.2.2.1,v1.2.2.2.2.1,v1.2.2.2.2.2.1,v1.2.2.2.2.2.2.1,v1.2.2.2.2.2.2.2.1,(),v1.2.2.2.2.2.2.2.2.2.1,v1.2.2.2.2.2.2.2.2.2.2.1,v1.2.2.2.2.2.2.2.2.2.2.2,()),()),(v1.2.2.1,v1.2.2.2.2.2.2.2.2.1,()))
abbrev ynT (v0:dA):(yew).X:=((((),()),()),((v0.1,v0.2.1.1,v0.2.1.2,(),v0.2.2.2.1,v0.2.2.2.2.1,v0.2.2.2.2.2.1,v0.2.2.2.2.2.2.1,v0.2.2.2.2.2.2.2.1,(),v0.2.2.2.2.2.2.2.2.2.1,v0.2.2.2.2.2.2.2.2.2.2.1,v0.2.2.2.2.2.2.2.2.2.2.2,()),()),(v0.2.2.1,v0.2.2.2.2.2.2.2.2.1,()))
abbrev ynV (v0:Bool) (v1:dA):(yeI).X:=(((v0,()),()),((v1.1,v1.2.1.1,v1.2.1.2,(),v1.2.2.2.1,v1.2.2.2.2.1,v1.2.2.2.2.2.1,v1.2.2.2.2.2.2.1,v1.2.2.2.2.2.2.2.1,(),v1.2.2.2.2.2.2.2.2.2.1,v1.2.2.2.2.2.2.2.2.2.2.1,v1.2.2.2.2.2.2.2.2.2.2.2,()),()),(v1.2.2.1,v1.2.2.2.2.2.2.2.2.1,()))
def yn1 (v0 v1 v2 v3 v4 v5 v6 v7 v8 v9 v10:Int) (v11 v12:Bool) (v13:List dM) (v14:List dW):Option ((yaT).X ⊕ ((yew).X ⊕ (yeI).X)) :=
 bif (ltb v1 v0) then
 let r4:=yrt (v2,(v3,v4),v13,v5,v6,v7,v8,v9,v14,v10,v11,v12) v1
 let r5:=yjm r4
 bnd (yej (v2,(v3,v4),v13,v5,v6,v7,v8,v9,v14,v10,v11,v12) v1 (v9.tmod 2) r5) fun r6 =>
 bif (!r6.1.1) then
 some (.inr (.inr (((false,()),()),((r6.2.1.1,r6.2.1.2.1.1,r6.2.1.2.1.2,(),r6.2.1.2.2.2.1,r6.2.1.2.2.2.2.1,r6.2.1.2.2.2.2.2.1,r6.2.1.2.2.2.2.2.2.1,r6.2.1.2.2.2.2.2.2.2.1,(),r6.2.1.2.2.2.2.2.2.2.2.2.1,r6.2.1.2.2.2.2.2.2.2.2.2.2.1,r6.2.1.2.2.2.2.2.2.2.2.2.2.2,()),()),(r6.2.1.2.2.1,r6.2.1.2.2.2.2.2.2.2.2.1,()))))
 else
 some (.inl ((((),()),(v0,()),((IntKind.i64.wrap (v1+1)),()),()),((r6.2.1.1,r6.2.1.2.1.1,r6.2.1.2.1.2,(),r6.2.1.2.2.2.1,r6.2.1.2.2.2.2.1,r6.2.1.2.2.2.2.2.1,r6.2.1.2.2.2.2.2.2.1,r6.2.1.2.2.2.2.2.2.2.1,(),r6.2.1.2.2.2.2.2.2.2.2.2.1,r6.2.1.2.2.2.2.2.2.2.2.2.2.1,r6.2.1.2.2.2.2.2.2.2.2.2.2.2,()),()),(r6.2.1.2.2.1,r6.2.1.2.2.2.2.2.2.2.2.1,())))
 else
 some (.inr (.inl ((((),()),()),((v2,v3,v4,(),v5,v6,v7,v8,v9,(),v10,v11,v12,()),()),(v13,v14,()))))
def ya9 (x:(yaT).X):=yn1 x.1.2.1.1 x.1.2.2.1.1 x.2.1.1.1 x.2.1.1.2.1 x.2.1.1.2.2.1 x.2.1.1.2.2.2.2.1 x.2.1.1.2.2.2.2.2.1 x.2.1.1.2.2.2.2.2.2.1 x.2.1.1.2.2.2.2.2.2.2.1 x.2.1.1.2.2.2.2.2.2.2.2.1 x.2.1.1.2.2.2.2.2.2.2.2.2.2.1 x.2.1.1.2.2.2.2.2.2.2.2.2.2.2.1 x.2.1.1.2.2.2.2.2.2.2.2.2.2.2.2.1 x.2.2.1 x.2.2.2.1
def yxd (x:(yeC).X):(yaT).X:=((((),()),(x.1.2.1.1,()),(0,()),()),((x.2.1.1.1,x.2.1.1.2.1,x.2.1.1.2.2.1,(),x.2.1.1.2.2.2.2.1,x.2.1.1.2.2.2.2.2.1,x.2.1.1.2.2.2.2.2.2.1,x.2.1.1.2.2.2.2.2.2.2.1,x.2.1.1.2.2.2.2.2.2.2.2.1,(),x.2.1.1.2.2.2.2.2.2.2.2.2.2.1,x.2.1.1.2.2.2.2.2.2.2.2.2.2.2.1,x.2.1.1.2.2.2.2.2.2.2.2.2.2.2.2.1,()),()),(x.2.2.1,x.2.2.2.1,()))
def yy4:Code:=(zdI yhZ 64 116).getD .skip
theorem yLx:zdI yhZ 64 29=some (.block 0 (.loop yy4)):=by kernel_rfl
theorem yNb (x:(yaT).X):zg7 ⟨yog,37,yAI⟩ 0 yy4 116 yaT yew yeI x=ya9 x:=by kernel_rfl
def yxp (x:(yeC).X):Nat:=18446744073709551616
def ypO (x:(yeC).X):Option ((yew).X ⊕ (yeI).X):=zr ya9 (yxp x) (yxd x)
def yxF:Seg:=⟨yeC,yew,yeI,ypO⟩
def yAJ:Nat→Option Seg:=fun q=>bif Nat.beq q 29 then some yxF else yAI q
theorem yLV:FrOk Tryz.prog ⟨yog,37,yAJ⟩ yhZ:=(yLU).loop (sg:=yxF) yaT yxd (by decide) yLx ya9 yxp (by decide) (fun _=>rfl) (fun x r _ h=>h) yNb
abbrev ycN:List Par:= [.pt tA (.pr .fz (.pr (.pr .fz .fz) (.pr (.ow (.pr (.ow (.ow .fz)) (.pr (.ow (.pr .fz (.ow .fz))) (.pr .fz (.ow .fz))))) (.pr .fz (.pr .fz (.pr .fz (.pr .fz (.pr .fz (.pr (.ow (.pr .fz (.ow .fz))) (.pr .fz (.pr .fz .fz)))))))))))]
abbrev yiR:List OT:= [⟨false,tB,.fz⟩]
def ykd (a0:dA):Option (ResD yiR×MutD ycN) :=
 zjw (ypO ((((),()),((a0.2.2.1.length:Int),()),((),()),()),((a0.1,a0.2.1.1,a0.2.1.2,(),a0.2.2.2.1,a0.2.2.2.2.1,a0.2.2.2.2.2.1,a0.2.2.2.2.2.2.1,(IntKind.i64.wrap (a0.2.2.2.2.2.2.2.1+1)),(),a0.2.2.2.2.2.2.2.2.2.1,a0.2.2.2.2.2.2.2.2.2.2.1,a0.2.2.2.2.2.2.2.2.2.2.2,()),()),(a0.2.2.1,a0.2.2.2.2.2.2.2.2.1,()))) (fun y6 =>
 bnd (yfk (y6.2.1.1.1,(y6.2.1.1.2.1,y6.2.1.1.2.2.1),y6.2.2.1,y6.2.1.1.2.2.2.2.1,y6.2.1.1.2.2.2.2.2.1,y6.2.1.1.2.2.2.2.2.2.1,y6.2.1.1.2.2.2.2.2.2.2.1,y6.2.1.1.2.2.2.2.2.2.2.2.1,y6.2.2.2.1,y6.2.1.1.2.2.2.2.2.2.2.2.2.2.1,y6.2.1.1.2.2.2.2.2.2.2.2.2.2.2.1,y6.2.1.1.2.2.2.2.2.2.2.2.2.2.2.2.1)) fun r8 =>
 some ((r8.1.1,()),(r8.2.1,()))) (fun y6 =>
 some ((y6.1.1.1,()),((y6.2.1.1.1,(y6.2.1.1.2.1,y6.2.1.1.2.2.1),y6.2.2.1,y6.2.1.1.2.2.2.2.1,y6.2.1.1.2.2.2.2.2.1,y6.2.1.1.2.2.2.2.2.2.1,y6.2.1.1.2.2.2.2.2.2.2.1,y6.2.1.1.2.2.2.2.2.2.2.2.1,y6.2.2.2.1,y6.2.1.1.2.2.2.2.2.2.2.2.2.2.1,y6.2.1.1.2.2.2.2.2.2.2.2.2.2.2.1,y6.2.1.1.2.2.2.2.2.2.2.2.2.2.2.2.1),())))
theorem yTV (x:InD ycN):zjH ⟨yog,37,yAJ⟩ Tryz.f101.results.toList yhZ ycN yiR x=ykd x.1:=by kernel_rfl
theorem yOT:ConOk Tryz.prog 101 ⟨ycN,yiR,fun x=>ykd x.1⟩:=zkh (yLV) Tryz.func101 (by kernel_rfl) (by kernel_rfl) Tryz.ntmps101.symm (by decide) (fun x r h=>(yTV x).trans h)
def yo8 (a0:dA):Bool×dA:=(!(yd (ygd a0)),ygd a0)
def yju (a0:dA):Bool:= !(yd a0)
theorem y2L {a:dA} (i:Nat) (h:yd a=true):yaL a i=a:=yST h _ _ _
theorem yRP (a0:dA) (hk:zi9 ycN (a0,())) (hq:yju a0=true):ykd a0=(fun n=>some ((n.1,()),(n.2,()))) (yo8 a0):=by
 have hb:a0.2.2.1.length * 80≤2 ^ 47:=hk.1.2.2.1.1
 have hd0:yd a0=false:=by simpa [yju] using hq
 have h1:ypO (yKq a0.2.2.1.length (ymq a0))=some (bif yd ((List.range a0.2.2.1.length).foldl yaL (ymq a0)) then .inr (ynV false ((List.range a0.2.2.1.length).foldl yaL (ymq a0))) else .inl (ynT ((List.range a0.2.2.1.length).foldl yaL (ymq a0)))):=by
  have:=zkr (step:=ya9) a0.2.2.1.length (fun i s=>ynO a0.2.2.1.length i s) (fun i s=>bif yd (yaL s i) then (.inr (yaL s i):dA ⊕ dA) else .inl (yaL s i)) (fun _ s=>s.2.2.1.length=a0.2.2.1.length∧yd s=false) id
   (fun b=>bif yd b then .inr (ynV false b) else .inl (ynT b)) (fun i s hi hs=>by
    constructor
    ·simp only [ya9,ynO,yn1,zjI (show (i:Int) < a0.2.2.1.length by omega),cond_true,wr (show -9223372036854775808≤(i:Int)+1 by omega) (by omega),Int.natCast_add,Int.natCast_one,Int.toNat_natCast,zkV,y3f,yrt]
     rw [ysi s i (s.2.2.2.2.2.2.2.1.tmod 2) (yaJ (s.1,s.2.2.2.2.2.2.2.1,(i:Int),s.2.1.1,s.2.1.2,s.2.2.2.2.2.2.1,s.2.2.2.1,s.2.2.2.2.1)) (by unfold ycf; rw [zkO (by rw [hs.1]; exact hi),hs.2]; rfl)]
     simp only [zky,ycd]
     rw [show yeR s i (s.2.2.2.2.2.2.2.1.tmod 2) (yaJ (s.1,s.2.2.2.2.2.2.2.1,(i:Int),s.2.1.1,s.2.1.2,s.2.2.2.2.2.2.1,s.2.2.2.1,s.2.2.2.2.1))=yaL s i from rfl]
     cases hd:yd (yaL s i)
     ·rfl
     ·simp only [hd,Bool.not_true,Bool.not_false,cond_true,ynV]
    ·intro s' h
     cases hd:yd (yaL s i)
     ·rw [hd]at h
      cases h
      exact ⟨(yPP s i).trans hs.1,hd⟩
     ·rw [hd]at h; cases h) (fun s hs=>by simp only [ya9,ynO,yn1,hs.2,zkm (Int.le_refl _),cond_false,id,ynT]) (ymq a0) ⟨rfl,hd0⟩ 18446744073709551616 (by omega)
  rw [yEl (fun a i h=>y2L i h),← List.range_eq_range'] at this
  exact this
 unfold ykd yo8 ygd
 refine (congrArg (fun z=>zjw z _ _) h1).trans ?_
 cases hd:yd ((List.range a0.2.2.1.length).foldl yaL (ymq a0))
 ·simp only [cond_false,zkJ,zkV]
  rw [yup _ (by unfold yfl; rw [hd]; rfl)]; rfl
 ·rw [yZ5 hd]
  simp only [cond_true,zkK,zkV]
  rw [hd]; rfl
def yjt (a0:dA):Option (ResD yiR×MutD ycN):=bif yju a0 then (fun n=>some ((n.1,()),(n.2,()))) (yo8 a0) else none
theorem ySQ (a0:dA) (h:yju a0=true):yjt a0=(fun n=>some ((n.1,()),(n.2,()))) (yo8 a0):=by unfold yjt; rw [h]; rfl
def yBp:Con:=⟨ycN,yiR,fun x=>yjt x.1⟩
theorem ySA:ConOk Tryz.prog 101 yBp:=(yOT).mono (fun x r hk h=>zkW h (fun hq=>yRP x.1 hk hq))
end
section
def yCI:Code:=(Tryz.f111.body).getD .skip
def yDc:Env:=zki TT [(101,yBp),(202,yj9)] []
theorem yKd:FrOk Tryz.prog ⟨yDc,15,fun _=>none⟩ yCI:=zkp yb yc ⟨ySA,yuo,trivial⟩
def yK8:Nat→Option Seg:=fun _=>none
abbrev yb3:List Par:= [.pt tA (.pr .fz (.pr (.pr .fz .fz) (.pr (.ow (.pr (.ow (.ow .fz)) (.pr (.ow (.pr .fz (.ow .fz))) (.pr .fz (.ow .fz))))) (.pr .fz (.pr .fz (.pr .fz (.pr .fz (.pr .fz (.pr (.ow (.pr .fz (.ow .fz))) (.pr .fz (.pr .fz .fz)))))))))))]
abbrev ygW:List OT:= [⟨false,tB,.fz⟩]
def yjv (a0:dA):Option (ResD ygW×MutD yb3) :=
 bnd (yfk a0) fun r1 =>
 bif (!r1.1.1) then
 some ((false,()),(r1.2.1,()))
 else
 bnd (yjt (r1.2.1.1,r1.2.1.2.1,r1.2.1.2.2.1,r1.2.1.2.2.2.1,r1.2.1.2.2.2.2.1,r1.2.1.2.2.2.2.2.1,r1.2.1.2.2.2.2.2.1,r1.2.1.2.2.2.2.2.2.2)) fun r2 =>
 some ((r2.1.1,()),(r2.2.1,()))
theorem yQk (x:InD yb3):zjH ⟨yDc,15,yK8⟩ Tryz.f111.results.toList yCI yb3 ygW x=yjv x.1:=by kernel_rfl
theorem yMV:ConOk Tryz.prog 111 ⟨yb3,ygW,fun x=>yjv x.1⟩:=zkh (yKd) Tryz.func111 (by kernel_rfl) (by kernel_rfl) Tryz.ntmps111.symm (by decide) (fun x r h=>(yQk x).trans h)
def yg3 (a0:dA):Bool×dA:=(!(yd (yv a0)),yv a0)
def ymx (a0:dA):Bool:= !(yd a0)
theorem yOM (a0:dA) (hk:zi9 yb3 (a0,())) (hq:ymx a0=true):yjv a0=(fun n=>some ((n.1,()),(n.2,()))) (yg3 a0):=by
 unfold yjv yg3 yv
 rw [yup a0 hq]
 simp only [zky,yjk]
 cases hd:yd (yz a0)
 ·have hm:yjt (ynG (yz a0))=some ((!(yd (ygd (ynG (yz a0)))),()),(ygd (ynG (yz a0)),())):=ySQ (ynG (yz a0)) (by unfold yju; rw [show yd (ynG (yz a0))=yd (yz a0) from rfl,hd]; rfl)
  exact (congrArg (fun z=>bnd z _) hm).trans rfl
 ·simp only [Bool.not_true,Bool.not_false,cond_true]
  rw [hd]; rfl
def ymu (a0:dA):Option (ResD ygW×MutD yb3):=bif ymx a0 then (fun n=>some ((n.1,()),(n.2,()))) (yg3 a0) else none
theorem yPl (a0:dA) (h:ymx a0=true):ymu a0=(fun n=>some ((n.1,()),(n.2,()))) (yg3 a0):=by unfold ymu; rw [h]; rfl
def yzg:Con:=⟨yb3,ygW,fun x=>ymu x.1⟩
theorem yPg:ConOk Tryz.prog 111 yzg:=(yMV).mono (fun x r hk h=>zkW h (fun hq=>yOM x.1 hk hq))
end
section
def yJp:Code:=(Tryz.f160.body).getD .skip
def yJO:Env:=zki TT [] []
theorem yQ0:FrOk Tryz.prog ⟨yJO,8,fun _=>none⟩ yJp:=zkp yb yc trivial
def yTv:Nat→Option Seg:=fun _=>none
abbrev ynh:List Par:= [.rd tI]
abbrev ytt:List OT:= [⟨false,tI,.fz⟩]
def ywS (a0:Int):Option (ResD ytt×MutD ynh) :=
 bif (ltb a0 0) then
 some (((-1),()),())
 else
 some (((IntKind.i64.wrap (2+(a0.tmod 4))),()),())
theorem y0C (x:InD ynh):zjH ⟨yJO,8,yTv⟩ Tryz.f160.results.toList yJp ynh ytt x=ywS x.1:=by kernel_rfl
theorem yWa:ConOk Tryz.prog 160 ⟨ynh,ytt,fun x=>ywS x.1⟩:=zkh (yQ0) Tryz.func160 (by kernel_rfl) (by kernel_rfl) Tryz.ntmps160.symm (by decide) (fun x r h=>(y0C x).trans h)
def ydN (a0:Int):Int :=
 bif (ltb a0 0) then
 (-1)
 else
 (IntKind.i64.wrap (2+(a0.tmod 4)))
def yGs:Con:=⟨ynh,ytt,fun x=>(fun n=>some ((n,()),())) (ydN x.1)⟩
theorem yYw (a0:Int):ywS a0=(fun n=>some ((n,()),())) (ydN a0):=zkS (p:=fun (n:Int)=>((n,()),())) (zkx (p:=fun (n:Int)=>((n,()),())) rfl rfl)
theorem yZx:ConOk Tryz.prog 160 yGs:=(yWa).mono (fun x r _ h=>(yYw x.1).trans h)
end
section
def yJc:Code:=(Tryz.f157.body).getD .skip
def yJB:Env:=zki TT [] []
theorem yQx:FrOk Tryz.prog ⟨yJB,8,fun _=>none⟩ yJc:=zkp yb yc trivial
def yTi:Nat→Option Seg:=fun _=>none
abbrev ym7:List Par:= [.rd tI]
abbrev ys8:List OT:= [⟨false,tI,.fz⟩]
def ywI (a0:Int):Option (ResD ys8×MutD ym7) :=
 bif (ltb a0 0) then
 some (((-1),()),())
 else
 some (((IntKind.i64.wrap (2+(a0.tmod 4))),()),())
theorem y0h (x:InD ym7):zjH ⟨yJB,8,yTi⟩ Tryz.f157.results.toList yJc ym7 ys8 x=ywI x.1:=by kernel_rfl
theorem yVP:ConOk Tryz.prog 157 ⟨ym7,ys8,fun x=>ywI x.1⟩:=zkh (yQx) Tryz.func157 (by kernel_rfl) (by kernel_rfl) Tryz.ntmps157.symm (by decide) (fun x r h=>(y0h x).trans h)
def ytE (a0:Int):Int :=
 bif (ltb a0 0) then
 (-1)
 else
 (IntKind.i64.wrap (2+(a0.tmod 4)))
def yGh:Con:=⟨ym7,ys8,fun x=>(fun n=>some ((n,()),())) (ytE x.1)⟩
theorem yYb (a0:Int):ywI a0=(fun n=>some ((n,()),())) (ytE a0):=zkS (p:=fun (n:Int)=>((n,()),())) (zkx (p:=fun (n:Int)=>((n,()),())) rfl rfl)
theorem yZm:ConOk Tryz.prog 157 yGh:=(yVP).mono (fun x r _ h=>(yYb x.1).trans h)
theorem y2I (q:Int):ytE q=ydN q:=rfl
end
end
end Go.Tf
