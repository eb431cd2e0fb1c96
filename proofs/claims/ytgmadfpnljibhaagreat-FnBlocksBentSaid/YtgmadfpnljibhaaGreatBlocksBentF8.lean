/- Functions of the program, and what they come to. -/
import Derived.Test.YtgmadfpnljibhaaGreatBlocksBentF7
namespace Go.Tf
noncomputable section
open Go.Proofs
set_option synthInstance.maxHeartbeats 400000
set_option synthInstance.maxSize 10000
set_option linter.unusedVariables false
set_option linter.unusedSimpArgs false
set_option maxRecDepth 100000
section
def yn0:Code:=(Tryz.f261.body).getD .skip
def yuc:Env:=zj3 TT [(263,yBw),(286,yte)] []
theorem yTV:FrOk Tryz.prog ⟨yuc,39,fun _=>none⟩ yn0:=zj7 yb yc ⟨yPp,yFm,trivial⟩
def yGG:Nat→Option Seg:=fun _=>none
def ydJ:Shape:=⟨[(0,false,[.ptr 1000000000 0]),(2,false,[.int .i64])],[(1000000000,[.int .i64,.int .i64,.int .i64,.at 800000000,.int .i64,.int .i64,.int .i64,.int .i64,.int .i64,.at 800000001,.int .i64,.bool,.bool])],[(800000000,tM,(.pr (.ow .fz) (.pr (.ow (.pr .fz .fz)) (.pr .fz (.ow .fz))))),(800000001,tW,(.pr .fz .fz))]⟩
def yjX:Shape:=⟨[(0,false,[.ptr 1000000000 0]),(2,false,[.ci .i64 0])],[(1000000000,[.int .i64,.int .i64,.int .i64,.at 800000000,.int .i64,.int .i64,.int .i64,.int .i64,.int .i64,.at 800000001,.int .i64,.bool,.bool])],[(800000000,tM,(.pr (.ow .fz) (.pr (.ow (.pr .fz .fz)) (.pr .fz (.ow .fz))))),(800000001,tW,(.pr .fz .fz))]⟩
def yjI:Shape:=⟨[],[(1000000000,[.int .i64,.int .i64,.int .i64,.at 800000000,.int .i64,.int .i64,.int .i64,.int .i64,.int .i64,.at 800000001,.int .i64,.bool,.bool])],[(800000000,tM,(.pr (.ow .fz) (.pr (.ow (.pr .fz .fz)) (.pr .fz (.ow .fz))))),(800000001,tW,(.pr .fz .fz))]⟩
def yp7:Shape:=⟨[],[],[]⟩
abbrev yvB (v0:Int) (v1:dA):(ydJ).X:=((((),()),(v0,()),()),((v1.1,v1.2.1.1,v1.2.1.2,(),v1.2.2.2.1,v1.2.2.2.2.1,v1.2.2.2.2.2.1,v1.2.2.2.2.2.2.1,v1.2.2.2.2.2.2.2.1,(),v1.2.2.2.2.2.2.2.2.2.1,v1.2.2.2.2.2.2.2.2.2.2.1,v1.2.2.2.2.2.2.2.2.2.2.2,()),()),(v1.2.2.1,v1.2.2.2.2.2.2.2.2.1,()))
abbrev yUj (v0:dA):(yjX).X:=((((),()),((),()),()),((v0.1,v0.2.1.1,v0.2.1.2,(),v0.2.2.2.1,v0.2.2.2.2.1,v0.2.2.2.2.2.1,v0.2.2.2.2.2.2.1,v0.2.2.2.2.2.2.2.1,(),v0.2.2.2.2.2.2.2.2.2.1,v0.2.2.2.2.2.2.2.2.2.2.1,v0.2.2.2.2.2.2.2.2.2.2.2,()),()),(v0.2.2.1,v0.2.2.2.2.2.2.2.2.1,()))
abbrev yFd (v0:dA):(yjI).X:=((),((v0.1,v0.2.1.1,v0.2.1.2,(),v0.2.2.2.1,v0.2.2.2.2.1,v0.2.2.2.2.2.1,v0.2.2.2.2.2.2.1,v0.2.2.2.2.2.2.2.1,(),v0.2.2.2.2.2.2.2.2.2.1,v0.2.2.2.2.2.2.2.2.2.2.1,v0.2.2.2.2.2.2.2.2.2.2.2,()),()),(v0.2.2.1,v0.2.2.2.2.2.2.2.2.1,()))
def yv0 (v0 v1 v2 v3 v4 v5 v6 v7 v8 v9:Int) (v10 v11:Bool) (v12:List dM) (v13:List dW):Option ((ydJ).X ⊕ ((yjI).X ⊕ (yp7).X)) :=
 bif (ltb v0 (v12.length:Int)) then
 bif (inb v0 v12.length) then
 bif (!((((nth v12 v0 ([],[],false,[])).2).2).1)) then
 let r3:=yt0 (v1,(v2,v3),v12,v4,v5,v6,v7,v8,v13,v9,v10,v11)
 bif r3.1 then
 bif (inb v0 r3.2.2.2.1.length) then
 let r4:=ydV ((nth r3.2.2.2.1 v0 ([],[],false,[])).1,((nth r3.2.2.2.1 v0 ([],[],false,[])).2).1,(((nth r3.2.2.2.1 v0 ([],[],false,[])).2).2))
 bif (inb v0 r3.2.2.2.1.length) then
 some (.inl ((((),()),((IntKind.i64.wrap (v0+1)),()),()),((r3.2.1,r3.2.2.1.1,r3.2.2.1.2,(),r3.2.2.2.2.1,r3.2.2.2.2.2.1,r3.2.2.2.2.2.2.1,r3.2.2.2.2.2.2.2.1,r3.2.2.2.2.2.2.2.2.1,(),r3.2.2.2.2.2.2.2.2.2.2.1,r3.2.2.2.2.2.2.2.2.2.2.2.1,r3.2.2.2.2.2.2.2.2.2.2.2.2,()),()),((r3.2.2.2.1.set (v0).toNat r4),r3.2.2.2.2.2.2.2.2.2.1,())))
 else none
 else none
 else
 some (.inl ((((),()),((IntKind.i64.wrap (v0+1)),()),()),((r3.2.1,r3.2.2.1.1,r3.2.2.1.2,(),r3.2.2.2.2.1,r3.2.2.2.2.2.1,r3.2.2.2.2.2.2.1,r3.2.2.2.2.2.2.2.1,r3.2.2.2.2.2.2.2.2.1,(),r3.2.2.2.2.2.2.2.2.2.2.1,r3.2.2.2.2.2.2.2.2.2.2.2.1,r3.2.2.2.2.2.2.2.2.2.2.2.2,()),()),(r3.2.2.2.1,r3.2.2.2.2.2.2.2.2.2.1,())))
 else
 some (.inl ((((),()),((IntKind.i64.wrap (v0+1)),()),()),((v1,v2,v3,(),v4,v5,v6,v7,v8,(),v9,v10,v11,()),()),(v12,v13,())))
 else none
 else
 some (.inr (.inl ((),((v1,v2,v3,(),v4,v5,v6,v7,v8,(),v9,v10,v11,()),()),(v12,v13,()))))
def yen (x:(ydJ).X):=yv0 x.1.2.1.1 x.2.1.1.1 x.2.1.1.2.1 x.2.1.1.2.2.1 x.2.1.1.2.2.2.2.1 x.2.1.1.2.2.2.2.2.1 x.2.1.1.2.2.2.2.2.2.1 x.2.1.1.2.2.2.2.2.2.2.1 x.2.1.1.2.2.2.2.2.2.2.2.1 x.2.1.1.2.2.2.2.2.2.2.2.2.2.1 x.2.1.1.2.2.2.2.2.2.2.2.2.2.2.1 x.2.1.1.2.2.2.2.2.2.2.2.2.2.2.2.1 x.2.2.1 x.2.2.2.1
def yEO (x:(yjX).X):(ydJ).X:=((((),()),(0,()),()),((x.2.1.1.1,x.2.1.1.2.1,x.2.1.1.2.2.1,(),x.2.1.1.2.2.2.2.1,x.2.1.1.2.2.2.2.2.1,x.2.1.1.2.2.2.2.2.2.1,x.2.1.1.2.2.2.2.2.2.2.1,x.2.1.1.2.2.2.2.2.2.2.2.1,(),x.2.1.1.2.2.2.2.2.2.2.2.2.2.1,x.2.1.1.2.2.2.2.2.2.2.2.2.2.2.1,x.2.1.1.2.2.2.2.2.2.2.2.2.2.2.2.1,()),()),(x.2.2.1,x.2.2.2.1,()))
def yHf:Code:=(zdD yn0 64 12).getD .skip
theorem yWB:zdD yn0 64 3=some (.block 0 (.loop yHf)):=by kernel_rfl
theorem yZQ (x:(ydJ).X):zg0 ⟨yuc,39,yGG⟩ 0 yHf 12 ydJ yjI yp7 x=yen x:=by kernel_rfl
def yE4 (x:(yjX).X):Nat:=18446744073709551616
def ywR (x:(yjX).X):Option ((yjI).X ⊕ (yp7).X):=zz yen (yE4 x) (yEO x)
def yFP:Seg:=⟨yjX,yjI,yp7,ywR⟩
def yGH:Nat→Option Seg:=fun q=>bif Nat.beq q 3 then some yFP else yGG q
theorem yTW:FrOk Tryz.prog ⟨yuc,39,yGH⟩ yn0:=(yTV).loop (sg:=yFP) ydJ yEO (by decide) yWB yen yE4 (by decide) (fun _=>rfl) (fun x r _ h=>h) yZQ
abbrev yi6:List Par:= [.pt tA (.pr .fz (.pr (.pr .fz .fz) (.pr (.ow (.pr (.ow .fz) (.pr (.ow (.pr .fz .fz)) (.pr .fz (.ow .fz))))) (.pr .fz (.pr .fz (.pr .fz (.pr .fz (.pr .fz (.pr (.ow (.pr .fz .fz)) (.pr .fz (.pr .fz .fz)))))))))))]
abbrev yuN:List OT:= []
def yqE (a0:dA):Option (ResD yuN×MutD yi6) :=
 zjZ (ywR ((((),()),((),()),()),((a0.1,a0.2.1.1,a0.2.1.2,(),a0.2.2.2.1,a0.2.2.2.2.1,a0.2.2.2.2.2.1,a0.2.2.2.2.2.2.1,a0.2.2.2.2.2.2.2.1,(),a0.2.2.2.2.2.2.2.2.2.1,a0.2.2.2.2.2.2.2.2.2.2.1,a0.2.2.2.2.2.2.2.2.2.2.2,()),()),(a0.2.2.1,a0.2.2.2.2.2.2.2.2.1,()))) (fun y4 =>
 some ((),((y4.2.1.1.1,(y4.2.1.1.2.1,y4.2.1.1.2.2.1),y4.2.2.1,y4.2.1.1.2.2.2.2.1,y4.2.1.1.2.2.2.2.2.1,y4.2.1.1.2.2.2.2.2.2.1,y4.2.1.1.2.2.2.2.2.2.2.1,y4.2.1.1.2.2.2.2.2.2.2.2.1,y4.2.2.2.1,y4.2.1.1.2.2.2.2.2.2.2.2.2.2.1,y4.2.1.1.2.2.2.2.2.2.2.2.2.2.2.1,y4.2.1.1.2.2.2.2.2.2.2.2.2.2.2.2.1),()))) (fun y4 =>
 none)
theorem y3B (x:InD yi6):zjx ⟨yuc,39,yGH⟩ Tryz.f261.results.toList yn0 yi6 yuN x=yqE x.1:=by kernel_rfl
theorem yZh:ConOk Tryz.prog 261 ⟨yi6,yuN,fun x=>yqE x.1⟩:=zj2 (yTW) Tryz.func261 (by kernel_rfl) (by kernel_rfl) Tryz.ntmps261.symm (by decide) (fun x r h=>(y3B x).trans h)
def yex (a0:dA):dA:=yK a0
theorem y1o (a0:dA) (hk:zi2 yi6 (a0,())):yqE a0=(fun n=>some ((),(n,()))) (yex a0):=by
 have hb:a0.2.2.1.length * 80≤2 ^ 47:=hk.1.2.2.1.1
 have h1:ywR (yUj a0)=some (.inl (yFd (yK a0))) :=
  zj9 (step:=yen) a0.2.2.1.length (fun i s=>yvB i s) yD (fun _ s=>s.2.2.1.length=a0.2.2.1.length) (fun s=> .inl (yFd s)) (fun i s hi hs=>⟨by
   simp only [yen,yvB,yv0,hs,zj5 (show (i:Int) < a0.2.2.1.length by omega),cond_true,wr (show -9223372036854775808≤(i:Int)+1 by omega) (by omega),Int.natCast_add,Int.natCast_one,Int.toNat_natCast,zkm hi,zks,yZS,yaN,ydV,yD,setMem]
   cases (nth s.2.2.1 i noMem).2.2.1<;>cases (opA s).1<;>simp only [cond_true,cond_false,Bool.not_true,Bool.not_false,yaN,Int.toNat_natCast],(yoW s i).trans hs⟩) (fun s hs=>by simp only [yen,yvB,yv0,hs,zky (Int.le_refl _),cond_false]) a0 rfl _ (by show _ < 18446744073709551616; omega)
 unfold yqE yex
 rw [h1]; rfl
def yqh:Con:=⟨yi6,yuN,fun x=>(fun n=>some ((),(n,()))) (yex x.1)⟩
theorem yzM:ConOk Tryz.prog 261 yqh:=(yZh).mono (fun x r hk h=>(y1o x.1 hk).trans h)
end
section
def ynZ:Code:=(Tryz.f203.body).getD .skip
def yub:Env:=zj3 TT [(140,ytg),(207,ymr),(261,yqh)] []
theorem yTT:FrOk Tryz.prog ⟨yub,63,fun _=>none⟩ ynZ:=zj7 yb yc ⟨yFo,yu0,yzM,trivial⟩
def yGE:Nat→Option Seg:=fun _=>none
def ycQ:Shape:=⟨[(0,false,[.ptr 1000000000 0]),(2,false,[.int .i64])],[(1000000000,[.int .i64,.int .i64,.int .i64,.at 800000000,.int .i64,.int .i64,.int .i64,.int .i64,.int .i64,.at 800000001,.int .i64,.bool,.bool])],[(800000000,tM,(.pr (.ow .fz) (.pr (.ow (.pr .fz .fz)) (.pr .fz (.ow .fz))))),(800000001,tW,(.pr .fz .fz))]⟩
def yie:Shape:=⟨[(0,false,[.ptr 1000000000 0]),(2,false,[.ci .i64 0])],[(1000000000,[.int .i64,.int .i64,.int .i64,.at 800000000,.int .i64,.int .i64,.int .i64,.int .i64,.int .i64,.at 800000001,.int .i64,.bool,.bool])],[(800000000,tM,(.pr (.ow .fz) (.pr (.ow (.pr .fz .fz)) (.pr .fz (.ow .fz))))),(800000001,tW,(.pr .fz .fz))]⟩
def yh2:Shape:=⟨[(0,false,[.ptr 1000000000 0])],[(1000000000,[.int .i64,.int .i64,.int .i64,.at 800000000,.int .i64,.int .i64,.int .i64,.int .i64,.int .i64,.at 800000001,.int .i64,.bool,.bool])],[(800000000,tM,(.pr (.ow .fz) (.pr (.ow (.pr .fz .fz)) (.pr .fz (.ow .fz))))),(800000001,tW,(.pr .fz .fz))]⟩
def ynh:Shape:=⟨[],[],[]⟩
abbrev ytu (v0:Int) (v1:dA):(ycQ).X:=((((),()),(v0,()),()),((v1.1,v1.2.1.1,v1.2.1.2,(),v1.2.2.2.1,v1.2.2.2.2.1,v1.2.2.2.2.2.1,v1.2.2.2.2.2.2.1,v1.2.2.2.2.2.2.2.1,(),v1.2.2.2.2.2.2.2.2.2.1,v1.2.2.2.2.2.2.2.2.2.2.1,v1.2.2.2.2.2.2.2.2.2.2.2,()),()),(v1.2.2.1,v1.2.2.2.2.2.2.2.2.1,()))
abbrev yRj (v0:dA):(yie).X:=((((),()),((),()),()),((v0.1,v0.2.1.1,v0.2.1.2,(),v0.2.2.2.1,v0.2.2.2.2.1,v0.2.2.2.2.2.1,v0.2.2.2.2.2.2.1,v0.2.2.2.2.2.2.2.1,(),v0.2.2.2.2.2.2.2.2.2.1,v0.2.2.2.2.2.2.2.2.2.2.1,v0.2.2.2.2.2.2.2.2.2.2.2,()),()),(v0.2.2.1,v0.2.2.2.2.2.2.2.2.1,()))
abbrev yC8 (v0:dA):(yh2).X:=((((),()),()),((v0.1,v0.2.1.1,v0.2.1.2,(),v0.2.2.2.1,v0.2.2.2.2.1,v0.2.2.2.2.2.1,v0.2.2.2.2.2.2.1,v0.2.2.2.2.2.2.2.1,(),v0.2.2.2.2.2.2.2.2.2.1,v0.2.2.2.2.2.2.2.2.2.2.1,v0.2.2.2.2.2.2.2.2.2.2.2,()),()),(v0.2.2.1,v0.2.2.2.2.2.2.2.2.1,()))
def ytN (v0 v1 v2 v3 v4 v5 v6 v7 v8 v9:Int) (v10 v11:Bool) (v12:List dM) (v13:List dW):Option ((ycQ).X ⊕ ((yh2).X ⊕ (ynh).X)) :=
 bif (ltb v0 (v12.length:Int)) then
 let r3:=yM (v1,v8,v0,v2,v3,v7,v4,v5)
 bnd (yfM (v1,(v2,v3),v12,v4,v5,v6,v7,v8,v13,v9,v10,v11) v0 (v8.tmod 2) r3) fun r4 =>
 some (.inl ((((),()),((IntKind.i64.wrap (v0+1)),()),()),((r4.2.1.1,r4.2.1.2.1.1,r4.2.1.2.1.2,(),r4.2.1.2.2.2.1,r4.2.1.2.2.2.2.1,r4.2.1.2.2.2.2.2.1,r4.2.1.2.2.2.2.2.2.1,r4.2.1.2.2.2.2.2.2.2.1,(),r4.2.1.2.2.2.2.2.2.2.2.2.1,r4.2.1.2.2.2.2.2.2.2.2.2.2.1,r4.2.1.2.2.2.2.2.2.2.2.2.2.2,()),()),(r4.2.1.2.2.1,r4.2.1.2.2.2.2.2.2.2.2.1,())))
 else
 some (.inr (.inl ((((),()),()),((v1,v2,v3,(),v4,v5,v6,v7,v8,(),v9,v10,v11,()),()),(v12,v13,()))))
def ydq (x:(ycQ).X):=ytN x.1.2.1.1 x.2.1.1.1 x.2.1.1.2.1 x.2.1.1.2.2.1 x.2.1.1.2.2.2.2.1 x.2.1.1.2.2.2.2.2.1 x.2.1.1.2.2.2.2.2.2.1 x.2.1.1.2.2.2.2.2.2.2.1 x.2.1.1.2.2.2.2.2.2.2.2.1 x.2.1.1.2.2.2.2.2.2.2.2.2.2.1 x.2.1.1.2.2.2.2.2.2.2.2.2.2.2.1 x.2.1.1.2.2.2.2.2.2.2.2.2.2.2.2.1 x.2.2.1 x.2.2.2.1
def yCS (x:(yie).X):(ycQ).X:=((((),()),(0,()),()),((x.2.1.1.1,x.2.1.1.2.1,x.2.1.1.2.2.1,(),x.2.1.1.2.2.2.2.1,x.2.1.1.2.2.2.2.2.1,x.2.1.1.2.2.2.2.2.2.1,x.2.1.1.2.2.2.2.2.2.2.1,x.2.1.1.2.2.2.2.2.2.2.2.1,(),x.2.1.1.2.2.2.2.2.2.2.2.2.2.1,x.2.1.1.2.2.2.2.2.2.2.2.2.2.2.1,x.2.1.1.2.2.2.2.2.2.2.2.2.2.2.2.1,()),()),(x.2.2.1,x.2.2.2.1,()))
def yEm:Code:=(zdD ynZ 64 52).getD .skip
theorem ySR:zdD ynZ 64 13=some (.block 0 (.loop yEm)):=by kernel_rfl
theorem yVL (x:(ycQ).X):zg0 ⟨yub,63,yGE⟩ 0 yEm 52 ycQ yh2 ynh x=ydq x:=by kernel_rfl
def yC4 (x:(yie).X):Nat:=18446744073709551616
def yvf (x:(yie).X):Option ((yh2).X ⊕ (ynh).X):=zz ydq (yC4 x) (yCS x)
def yDm:Seg:=⟨yie,yh2,ynh,yvf⟩
def yGF:Nat→Option Seg:=fun q=>bif Nat.beq q 13 then some yDm else yGE q
theorem yTU:FrOk Tryz.prog ⟨yub,63,yGF⟩ ynZ:=(yTT).loop (sg:=yDm) ycQ yCS (by decide) ySR ydq yC4 (by decide) (fun _=>rfl) (fun x r _ h=>h) yVL
abbrev yi5:List Par:= [.pt tA (.pr .fz (.pr (.pr .fz .fz) (.pr (.ow (.pr (.ow .fz) (.pr (.ow (.pr .fz .fz)) (.pr .fz (.ow .fz))))) (.pr .fz (.pr .fz (.pr .fz (.pr .fz (.pr .fz (.pr (.ow (.pr .fz .fz)) (.pr .fz (.pr .fz .fz)))))))))))]
abbrev yuM:List OT:= []
def yqD (a0:dA):Option (ResD yuM×MutD yi5) :=
 zjZ (yvf ((((),()),((),()),()),((a0.1,a0.2.1.1,a0.2.1.2,(),a0.2.2.2.1,a0.2.2.2.2.1,a0.2.2.2.2.2.1,a0.2.2.2.2.2.2.1,(IntKind.i64.wrap (a0.2.2.2.2.2.2.2.1+1)),(),a0.2.2.2.2.2.2.2.2.2.1,a0.2.2.2.2.2.2.2.2.2.2.1,a0.2.2.2.2.2.2.2.2.2.2.2,()),()),(a0.2.2.1,a0.2.2.2.2.2.2.2.2.1,()))) (fun y4 =>
 let r6:=yex (y4.2.1.1.1,(y4.2.1.1.2.1,y4.2.1.1.2.2.1),y4.2.2.1,y4.2.1.1.2.2.2.2.1,y4.2.1.1.2.2.2.2.2.1,y4.2.1.1.2.2.2.2.2.2.1,y4.2.1.1.2.2.2.2.2.2.2.1,y4.2.1.1.2.2.2.2.2.2.2.2.1,y4.2.2.2.1,y4.2.1.1.2.2.2.2.2.2.2.2.2.2.1,y4.2.1.1.2.2.2.2.2.2.2.2.2.2.2.1,y4.2.1.1.2.2.2.2.2.2.2.2.2.2.2.2.1)
 some ((),(r6,()))) (fun y4 =>
 none)
theorem y3A (x:InD yi5):zjx ⟨yub,63,yGF⟩ Tryz.f203.results.toList ynZ yi5 yuM x=yqD x.1:=by kernel_rfl
theorem yZg:ConOk Tryz.prog 203 ⟨yi5,yuM,fun x=>yqD x.1⟩:=zj2 (yTU) Tryz.func203 (by kernel_rfl) (by kernel_rfl) Tryz.ntmps203.symm (by decide) (fun x r h=>(y3A x).trans h)
def yaH (a0:dA):dA:=markA a0
theorem ySl (a:dA) (i:Nat):(yaL a i).2.2.1.length=a.2.2.1.length:=ywh _ _ _ _
theorem y1n (a0:dA) (hk:zi2 yi5 (a0,())):yqD a0=(fun n=>some ((),(n,()))) (yaH a0):=by
 have hb:a0.2.2.1.length * 80≤2 ^ 47:=hk.1.2.2.1.1
 have h1:yvf (yRj (yhe a0))=some (.inl (yC8 ((List.range a0.2.2.1.length).foldl yaL (yhe a0)))) :=
  zj9 (step:=ydq) a0.2.2.1.length (fun i s=>ytu i s) yaL (fun _ s=>s.2.2.1.length=a0.2.2.1.length) (fun s=> .inl (yC8 s)) (fun i s hi hs=>⟨by
   simp only [ydq,ytu,ytN,hs,zj5 (show (i:Int) < a0.2.2.1.length by omega),cond_true,wr (show -9223372036854775808≤(i:Int)+1 by omega) (by omega),Int.natCast_add,Int.natCast_one,Int.toNat_natCast,zks]
   rw [yoP s i (s.2.2.2.2.2.2.2.1.tmod 2) (yM (s.1,s.2.2.2.2.2.2.2.1,(i:Int),s.2.1.1,s.2.1.2,s.2.2.2.2.2.2.1,s.2.2.2.1,s.2.2.2.2.1)) (zkm (by rw [hs]; exact hi))]
   rfl,(ySl s i).trans hs⟩) (fun s hs=>by simp only [ydq,ytu,ytN,hs,zky (Int.le_refl _),cond_false]) (yhe a0) rfl _ (by show _ < 18446744073709551616; omega)
 unfold yqD yaH markA
 exact (congrArg (fun z=>zjZ z _ _) h1).trans rfl
def yqg:Con:=⟨yi5,yuM,fun x=>(fun n=>some ((),(n,()))) (yaH x.1)⟩
theorem yzL:ConOk Tryz.prog 203 yqg:=(yZg).mono (fun x r hk h=>(y1n x.1 hk).trans h)
end
section
def yjd:Code:=(Tryz.f101.body).getD .skip
def ypr:Env:=zj3 TT [(107,yko),(128,yEs),(201,yCx),(202,yla)] []
theorem yN7:FrOk Tryz.prog ⟨ypr,37,fun _=>none⟩ yjd:=zj7 yb yc ⟨ytw,yZp,yVn,yvD,trivial⟩
def yBR:Nat→Option Seg:=fun _=>none
def ybl:Shape:=⟨[(0,false,[.ptr 1000000000 0]),(15,false,[.int .i64]),(16,false,[.int .i64])],[(1000000000,[.int .i64,.int .i64,.int .i64,.at 800000000,.int .i64,.int .i64,.int .i64,.int .i64,.int .i64,.at 800000001,.int .i64,.bool,.bool])],[(800000000,tM,(.pr (.ow (.ow .fz)) (.pr (.ow (.pr .fz (.ow .fz))) (.pr .fz (.ow .fz))))),(800000001,tW,(.pr .fz (.ow .fz)))]⟩
def yfw:Shape:=⟨[(0,false,[.ptr 1000000000 0]),(15,false,[.int .i64]),(16,false,[.ci .i64 0])],[(1000000000,[.int .i64,.int .i64,.int .i64,.at 800000000,.int .i64,.int .i64,.int .i64,.int .i64,.int .i64,.at 800000001,.int .i64,.bool,.bool])],[(800000000,tM,(.pr (.ow (.ow .fz)) (.pr (.ow (.pr .fz (.ow .fz))) (.pr .fz (.ow .fz))))),(800000001,tW,(.pr .fz (.ow .fz)))]⟩
def yfo:Shape:=⟨[(0,false,[.ptr 1000000000 0])],[(1000000000,[.int .i64,.int .i64,.int .i64,.at 800000000,.int .i64,.int .i64,.int .i64,.int .i64,.int .i64,.at 800000001,.int .i64,.bool,.bool])],[(800000000,tM,(.pr (.ow (.ow .fz)) (.pr (.ow (.pr .fz (.ow .fz))) (.pr .fz (.ow .fz))))),(800000001,tW,(.pr .fz (.ow .fz)))]⟩
def yfE:Shape:=⟨[(2,false,[.bool])],[(1000000000,[.int .i64,.int .i64,.int .i64,.at 800000000,.int .i64,.int .i64,.int .i64,.int .i64,.int .i64,.at 800000001,.int .i64,.bool,.bool])],[(800000000,tM,(.pr (.ow (.ow .fz)) (.pr (.ow (.pr .fz (.ow .fz))) (.pr .fz (.ow .fz))))),(800000001,tW,(.pr .fz (.ow .fz)))]⟩
abbrev yo3 (v0 v1:Int) (v2:dA):(ybl).X:=((((),()),(v0,()),(v1,()),()),((v2.1,v2.2.1.1,v2.2.1.2,(),v2.2.2.2.1,v2.2.2.2.2.1,v2.2.2.2.2.2.1,v2.2.2.2.2.2.2.1,v2.2.2.2.2.2.2.2.1,(),v2.2.2.2.2.2.2.2.2.2.1,v2.2.2.2.2.2.2.2.2.2.2.1,v2.2.2.2.2.2.2.2.2.2.2.2,()),()),(v2.2.2.1,v2.2.2.2.2.2.2.2.2.1,()))
abbrev yMB (v0:Int) (v1:dA):(yfw).X:=((((),()),(v0,()),((),()),()),((v1.1,v1.2.1.1,v1.2.1.2,(),v1.2.2.2.1,v1.2.2.2.2.1,v1.2.2.2.2.2.1,v1.2.2.2.2.2.2.1,v1.2.2.2.2.2.2.2.1,(),v1.2.2.2.2.2.2.2.2.2.1,v1.2.2.2.2.2.2.2.2.2.2.1,v1.2.2.2.2.2.2.2.2.2.2.2,()),()),(v1.2.2.1,v1.2.2.2.2.2.2.2.2.1,()))
abbrev yo9 (v0:dA):(yfo).X:=((((),()),()),((v0.1,v0.2.1.1,v0.2.1.2,(),v0.2.2.2.1,v0.2.2.2.2.1,v0.2.2.2.2.2.1,v0.2.2.2.2.2.2.1,v0.2.2.2.2.2.2.2.1,(),v0.2.2.2.2.2.2.2.2.2.1,v0.2.2.2.2.2.2.2.2.2.2.1,v0.2.2.2.2.2.2.2.2.2.2.2,()),()),(v0.2.2.1,v0.2.2.2.2.2.2.2.2.1,()))
abbrev ypb (v0:Bool) (v1:dA):(yfE).X:=(((v0,()),()),((v1.1,v1.2.1.1,v1.2.1.2,(),v1.2.2.2.1,v1.2.2.2.2.1,v1.2.2.2.2.2.1,v1.2.2.2.2.2.2.1,v1.2.2.2.2.2.2.2.1,(),v1.2.2.2.2.2.2.2.2.2.1,v1.2.2.2.2.2.2.2.2.2.2.1,v1.2.2.2.2.2.2.2.2.2.2.2,()),()),(v1.2.2.1,v1.2.2.2.2.2.2.2.2.1,()))
def yph (v0 v1 v2 v3 v4 v5 v6 v7 v8 v9 v10:Int) (v11 v12:Bool) (v13:List dM) (v14:List dW):Option ((ybl).X ⊕ ((yfo).X ⊕ (yfE).X)) :=
 bif (ltb v1 v0) then
 let r4:=ysA (v2,(v3,v4),v13,v5,v6,v7,v8,v9,v14,v10,v11,v12) v1
 let r5:=ykw r4
 bnd (ye7 (v2,(v3,v4),v13,v5,v6,v7,v8,v9,v14,v10,v11,v12) v1 (v9.tmod 2) r5) fun r6 =>
 bif (!r6.1.1) then
 some (.inr (.inr (((false,()),()),((r6.2.1.1,r6.2.1.2.1.1,r6.2.1.2.1.2,(),r6.2.1.2.2.2.1,r6.2.1.2.2.2.2.1,r6.2.1.2.2.2.2.2.1,r6.2.1.2.2.2.2.2.2.1,r6.2.1.2.2.2.2.2.2.2.1,(),r6.2.1.2.2.2.2.2.2.2.2.2.1,r6.2.1.2.2.2.2.2.2.2.2.2.2.1,r6.2.1.2.2.2.2.2.2.2.2.2.2.2,()),()),(r6.2.1.2.2.1,r6.2.1.2.2.2.2.2.2.2.2.1,()))))
 else
 some (.inl ((((),()),(v0,()),((IntKind.i64.wrap (v1+1)),()),()),((r6.2.1.1,r6.2.1.2.1.1,r6.2.1.2.1.2,(),r6.2.1.2.2.2.1,r6.2.1.2.2.2.2.1,r6.2.1.2.2.2.2.2.1,r6.2.1.2.2.2.2.2.2.1,r6.2.1.2.2.2.2.2.2.2.1,(),r6.2.1.2.2.2.2.2.2.2.2.2.1,r6.2.1.2.2.2.2.2.2.2.2.2.2.1,r6.2.1.2.2.2.2.2.2.2.2.2.2.2,()),()),(r6.2.1.2.2.1,r6.2.1.2.2.2.2.2.2.2.2.1,())))
 else
 some (.inr (.inl ((((),()),()),((v2,v3,v4,(),v5,v6,v7,v8,v9,(),v10,v11,v12,()),()),(v13,v14,()))))
def ybI (x:(ybl).X):=yph x.1.2.1.1 x.1.2.2.1.1 x.2.1.1.1 x.2.1.1.2.1 x.2.1.1.2.2.1 x.2.1.1.2.2.2.2.1 x.2.1.1.2.2.2.2.2.1 x.2.1.1.2.2.2.2.2.2.1 x.2.1.1.2.2.2.2.2.2.2.1 x.2.1.1.2.2.2.2.2.2.2.2.1 x.2.1.1.2.2.2.2.2.2.2.2.2.2.1 x.2.1.1.2.2.2.2.2.2.2.2.2.2.2.1 x.2.1.1.2.2.2.2.2.2.2.2.2.2.2.2.1 x.2.2.1 x.2.2.2.1
def yyS (x:(yfw).X):(ybl).X:=((((),()),(x.1.2.1.1,()),(0,()),()),((x.2.1.1.1,x.2.1.1.2.1,x.2.1.1.2.2.1,(),x.2.1.1.2.2.2.2.1,x.2.1.1.2.2.2.2.2.1,x.2.1.1.2.2.2.2.2.2.1,x.2.1.1.2.2.2.2.2.2.2.1,x.2.1.1.2.2.2.2.2.2.2.2.1,(),x.2.1.1.2.2.2.2.2.2.2.2.2.2.1,x.2.1.1.2.2.2.2.2.2.2.2.2.2.2.1,x.2.1.1.2.2.2.2.2.2.2.2.2.2.2.2.1,()),()),(x.2.2.1,x.2.2.2.1,()))
def yAn:Code:=(zdD yjd 64 116).getD .skip
theorem yNI:zdD yjd 64 29=some (.block 0 (.loop yAn)):=by kernel_rfl
theorem yPt (x:(ybl).X):zg0 ⟨ypr,37,yBR⟩ 0 yAn 116 ybl yfo yfE x=ybI x:=by kernel_rfl
def yy1 (x:(yfw).X):Nat:=18446744073709551616
def yqV (x:(yfw).X):Option ((yfo).X ⊕ (yfE).X):=zz ybI (yy1 x) (yyS x)
def yzf:Seg:=⟨yfw,yfo,yfE,yqV⟩
def yBS:Nat→Option Seg:=fun q=>bif Nat.beq q 29 then some yzf else yBR q
theorem yN8:FrOk Tryz.prog ⟨ypr,37,yBS⟩ yjd:=(yN7).loop (sg:=yzf) ybl yyS (by decide) yNI ybI yy1 (by decide) (fun _=>rfl) (fun x r _ h=>h) yPt
abbrev ydt:List Par:= [.pt tA (.pr .fz (.pr (.pr .fz .fz) (.pr (.ow (.pr (.ow (.ow .fz)) (.pr (.ow (.pr .fz (.ow .fz))) (.pr .fz (.ow .fz))))) (.pr .fz (.pr .fz (.pr .fz (.pr .fz (.pr .fz (.pr (.ow (.pr .fz (.ow .fz))) (.pr .fz (.pr .fz .fz)))))))))))]
abbrev yjZ:List OT:= [⟨false,tB,.fz⟩]
def ylg (a0:dA):Option (ResD yjZ×MutD ydt) :=
 zjZ (yqV ((((),()),((a0.2.2.1.length:Int),()),((),()),()),((a0.1,a0.2.1.1,a0.2.1.2,(),a0.2.2.2.1,a0.2.2.2.2.1,a0.2.2.2.2.2.1,a0.2.2.2.2.2.2.1,(IntKind.i64.wrap (a0.2.2.2.2.2.2.2.1+1)),(),a0.2.2.2.2.2.2.2.2.2.1,a0.2.2.2.2.2.2.2.2.2.2.1,a0.2.2.2.2.2.2.2.2.2.2.2,()),()),(a0.2.2.1,a0.2.2.2.2.2.2.2.2.1,()))) (fun y6 =>
 bnd (ygd (y6.2.1.1.1,(y6.2.1.1.2.1,y6.2.1.1.2.2.1),y6.2.2.1,y6.2.1.1.2.2.2.2.1,y6.2.1.1.2.2.2.2.2.1,y6.2.1.1.2.2.2.2.2.2.1,y6.2.1.1.2.2.2.2.2.2.2.1,y6.2.1.1.2.2.2.2.2.2.2.2.1,y6.2.2.2.1,y6.2.1.1.2.2.2.2.2.2.2.2.2.2.1,y6.2.1.1.2.2.2.2.2.2.2.2.2.2.2.1,y6.2.1.1.2.2.2.2.2.2.2.2.2.2.2.2.1)) fun r8 =>
 some ((r8.1.1,()),(r8.2.1,()))) (fun y6 =>
 some ((y6.1.1.1,()),((y6.2.1.1.1,(y6.2.1.1.2.1,y6.2.1.1.2.2.1),y6.2.2.1,y6.2.1.1.2.2.2.2.1,y6.2.1.1.2.2.2.2.2.1,y6.2.1.1.2.2.2.2.2.2.1,y6.2.1.1.2.2.2.2.2.2.2.1,y6.2.1.1.2.2.2.2.2.2.2.2.1,y6.2.2.2.1,y6.2.1.1.2.2.2.2.2.2.2.2.2.2.1,y6.2.1.1.2.2.2.2.2.2.2.2.2.2.2.1,y6.2.1.1.2.2.2.2.2.2.2.2.2.2.2.2.1),())))
theorem yWP (x:InD ydt):zjx ⟨ypr,37,yBS⟩ Tryz.f101.results.toList yjd ydt yjZ x=ylg x.1:=by kernel_rfl
theorem yRt:ConOk Tryz.prog 101 ⟨ydt,yjZ,fun x=>ylg x.1⟩:=zj2 (yN8) Tryz.func101 (by kernel_rfl) (by kernel_rfl) Tryz.ntmps101.symm (by decide) (fun x r h=>(yWP x).trans h)
def yqi (a0:dA):Bool×dA:=(!(ye (markA a0)),markA a0)
def ykF (a0:dA):Bool:= !(ye a0)
theorem y42 {a:dA} (i:Nat) (h:ye a=true):yaL a i=a:=yVz h _ _ _
theorem yUs (a0:dA) (hk:zi2 ydt (a0,())) (hq:ykF a0=true):ylg a0=(fun n=>some ((n.1,()),(n.2,()))) (yqi a0):=by
 have hb:a0.2.2.1.length * 80≤2 ^ 47:=hk.1.2.2.1.1
 have hd0:ye a0=false:=by simpa [ykF] using hq
 have h1:yqV (yMB a0.2.2.1.length (yhe a0))=some (bif ye ((List.range a0.2.2.1.length).foldl yaL (yhe a0)) then .inr (ypb false ((List.range a0.2.2.1.length).foldl yaL (yhe a0))) else .inl (yo9 ((List.range a0.2.2.1.length).foldl yaL (yhe a0)))):=by
  have:=zj8 (step:=ybI) a0.2.2.1.length (fun i s=>yo3 a0.2.2.1.length i s) (fun i s=>bif ye (yaL s i) then (.inr (yaL s i):dA ⊕ dA) else .inl (yaL s i)) (fun _ s=>s.2.2.1.length=a0.2.2.1.length∧ye s=false) id
   (fun b=>bif ye b then .inr (ypb false b) else .inl (yo9 b)) (fun i s hi hs=>by
    constructor
    ·simp only [ybI,yo3,yph,zj5 (show (i:Int) < a0.2.2.1.length by omega),cond_true,wr (show -9223372036854775808≤(i:Int)+1 by omega) (by omega),Int.natCast_add,Int.natCast_one,Int.toNat_natCast,zks,y5s,ysA]
     rw [ytx s i (s.2.2.2.2.2.2.2.1.tmod 2) (yM (s.1,s.2.2.2.2.2.2.2.1,(i:Int),s.2.1.1,s.2.1.2,s.2.2.2.2.2.2.1,s.2.2.2.1,s.2.2.2.2.1)) (by unfold ycU; rw [zkm (by rw [hs.1]; exact hi),hs.2]; rfl)]
     simp only [zkd,ycR]
     rw [show yds s i (s.2.2.2.2.2.2.2.1.tmod 2) (yM (s.1,s.2.2.2.2.2.2.2.1,(i:Int),s.2.1.1,s.2.1.2,s.2.2.2.2.2.2.1,s.2.2.2.1,s.2.2.2.2.1))=yaL s i from rfl]
     cases hd:ye (yaL s i)
     ·rfl
     ·simp only [hd,Bool.not_true,Bool.not_false,cond_true,ypb]
    ·intro s' h
     cases hd:ye (yaL s i)
     ·rw [hd]at h
      cases h
      exact ⟨(ySl s i).trans hs.1,hd⟩
     ·rw [hd]at h; cases h) (fun s hs=>by simp only [ybI,yo3,yph,hs.2,zky (Int.le_refl _),cond_false,id,yo9]) (yhe a0) ⟨rfl,hd0⟩ 18446744073709551616 (by omega)
  rw [yE6 (fun a i h=>y42 i h),← List.range_eq_range'] at this
  exact this
 unfold ylg yqi markA
 refine (congrArg (fun z=>zjZ z _ _) h1).trans ?_
 cases hd:ye ((List.range a0.2.2.1.length).foldl yaL (yhe a0))
 ·simp only [cond_false,zki,zks]
  rw [yvF _ (by unfold yge; rw [hd]; rfl)]; rfl
 ·rw [y2P hd]
  simp only [cond_true,zkj,zks]
  rw [hd]; rfl
def ykC (a0:dA):Option (ResD yjZ×MutD ydt):=bif ykF a0 then (fun n=>some ((n.1,()),(n.2,()))) (yqi a0) else none
theorem yVx (a0:dA) (h:ykF a0=true):ykC a0=(fun n=>some ((n.1,()),(n.2,()))) (yqi a0):=by unfold ykC; rw [h]; rfl
def yCt:Con:=⟨ydt,yjZ,fun x=>ykC x.1⟩
theorem yVj:ConOk Tryz.prog 101 yCt:=(yRt).mono (fun x r hk h=>zkt h (fun hq=>yUs x.1 hk hq))
end
section
def yDF:Code:=(Tryz.f111.body).getD .skip
def yD4:Env:=zj3 TT [(101,yCt),(202,yla)] []
theorem yMo:FrOk Tryz.prog ⟨yD4,15,fun _=>none⟩ yDF:=zj7 yb yc ⟨yVj,yvD,trivial⟩
def yNm:Nat→Option Seg:=fun _=>none
abbrev ycC:List Par:= [.pt tA (.pr .fz (.pr (.pr .fz .fz) (.pr (.ow (.pr (.ow (.ow .fz)) (.pr (.ow (.pr .fz (.ow .fz))) (.pr .fz (.ow .fz))))) (.pr .fz (.pr .fz (.pr .fz (.pr .fz (.pr .fz (.pr (.ow (.pr .fz (.ow .fz))) (.pr .fz (.pr .fz .fz)))))))))))]
abbrev yif:List OT:= [⟨false,tB,.fz⟩]
def ykH (a0:dA):Option (ResD yif×MutD ycC) :=
 bnd (ygd a0) fun r1 =>
 bif (!r1.1.1) then
 some ((false,()),(r1.2.1,()))
 else
 bnd (ykC (r1.2.1.1,r1.2.1.2.1,r1.2.1.2.2.1,r1.2.1.2.2.2.1,r1.2.1.2.2.2.2.1,r1.2.1.2.2.2.2.2.1,r1.2.1.2.2.2.2.2.1,r1.2.1.2.2.2.2.2.2.2)) fun r2 =>
 some ((r2.1.1,()),(r2.2.1,()))
theorem ySU (x:InD ycC):zjx ⟨yD4,15,yNm⟩ Tryz.f111.results.toList yDF ycC yif x=ykH x.1:=by kernel_rfl
theorem yPe:ConOk Tryz.prog 111 ⟨ycC,yif,fun x=>ykH x.1⟩:=zj2 (yMo) Tryz.func111 (by kernel_rfl) (by kernel_rfl) Tryz.ntmps111.symm (by decide) (fun x r h=>(ySU x).trans h)
def yio (a0:dA):Bool×dA:=(!(ye (checkA a0)),checkA a0)
def ynw (a0:dA):Bool:= !(ye a0)
theorem yRn (a0:dA) (hk:zi2 ycC (a0,())) (hq:ynw a0=true):ykH a0=(fun n=>some ((n.1,()),(n.2,()))) (yio a0):=by
 unfold ykH yio checkA
 rw [yvF a0 hq]
 simp only [zkd,yks]
 cases hd:ye (yK a0)
 ·have hm:ykC (yiv (yK a0))=some ((!(ye (markA (yiv (yK a0)))),()),(markA (yiv (yK a0)),())):=yVx (yiv (yK a0)) (by unfold ykF; rw [show ye (yiv (yK a0))=ye (yK a0) from rfl,hd]; rfl)
  exact (congrArg (fun z=>bnd z _) hm).trans rfl
 ·simp only [Bool.not_true,Bool.not_false,cond_true]
  rw [hd]; rfl
def ynv (a0:dA):Option (ResD yif×MutD ycC):=bif ynw a0 then (fun n=>some ((n.1,()),(n.2,()))) (yio a0) else none
theorem yRZ (a0:dA) (h:ynw a0=true):ynv a0=(fun n=>some ((n.1,()),(n.2,()))) (yio a0):=by unfold ynv; rw [h]; rfl
def yAx:Con:=⟨ycC,yif,fun x=>ynv x.1⟩
theorem yRV:ConOk Tryz.prog 111 yAx:=(yPe).mono (fun x r hk h=>zkt h (fun hq=>yRn x.1 hk hq))
end
section
def yLf:Code:=(Tryz.f160.body).getD .skip
def yLM:Env:=zj3 TT [] []
theorem yTs:FrOk Tryz.prog ⟨yLM,8,fun _=>none⟩ yLf:=zj7 yb yc trivial
def yWb:Nat→Option Seg:=fun _=>none
abbrev yod:List Par:= [.rd tI]
abbrev yuy:List OT:= [⟨false,tI,.fz⟩]
def yyl (a0:Int):Option (ResD yuy×MutD yod) :=
 bif (ltb a0 0) then
 some (((-1),()),())
 else
 some (((IntKind.i64.wrap (2+(a0.tmod 4))),()),())
theorem y3i (x:InD yod):zjx ⟨yLM,8,yWb⟩ Tryz.f160.results.toList yLf yod yuy x=yyl x.1:=by kernel_rfl
theorem yYY:ConOk Tryz.prog 160 ⟨yod,yuy,fun x=>yyl x.1⟩:=zj2 (yTs) Tryz.func160 (by kernel_rfl) (by kernel_rfl) Tryz.ntmps160.symm (by decide) (fun x r h=>(y3i x).trans h)
def yew (a0:Int):Int :=
 bif (ltb a0 0) then
 (-1)
 else
 (IntKind.i64.wrap (2+(a0.tmod 4)))
def yHq:Con:=⟨yod,yuy,fun x=>(fun n=>some ((n,()),())) (yew x.1)⟩
theorem y1c (a0:Int):yyl a0=(fun n=>some ((n,()),())) (yew a0):=zkq (p:=fun (n:Int)=>((n,()),())) (zkc (p:=fun (n:Int)=>((n,()),())) rfl rfl)
theorem y2a:ConOk Tryz.prog 160 yHq:=(yYY).mono (fun x r _ h=>(y1c x.1).trans h)
end
section
def yK2:Code:=(Tryz.f157.body).getD .skip
def yLz:Env:=zj3 TT [] []
theorem yTa:FrOk Tryz.prog ⟨yLz,8,fun _=>none⟩ yK2:=zj7 yb yc trivial
def yVY:Nat→Option Seg:=fun _=>none
abbrev yn4:List Par:= [.rd tI]
abbrev yuk:List OT:= [⟨false,tI,.fz⟩]
def yyc (a0:Int):Option (ResD yuk×MutD yn4) :=
 bif (ltb a0 0) then
 some (((-1),()),())
 else
 some (((IntKind.i64.wrap (2+(a0.tmod 4))),()),())
theorem y23 (x:InD yn4):zjx ⟨yLz,8,yVY⟩ Tryz.f157.results.toList yK2 yn4 yuk x=yyc x.1:=by kernel_rfl
theorem yYJ:ConOk Tryz.prog 157 ⟨yn4,yuk,fun x=>yyc x.1⟩:=zj2 (yTa) Tryz.func157 (by kernel_rfl) (by kernel_rfl) Tryz.ntmps157.symm (by decide) (fun x r h=>(y23 x).trans h)
def yuP (a0:Int):Int :=
 bif (ltb a0 0) then
 (-1)
 else
 (IntKind.i64.wrap (2+(a0.tmod 4)))
def yHk:Con:=⟨yn4,yuk,fun x=>(fun n=>some ((n,()),())) (yuP x.1)⟩
theorem y0X (a0:Int):yyc a0=(fun n=>some ((n,()),())) (yuP a0):=zkq (p:=fun (n:Int)=>((n,()),())) (zkc (p:=fun (n:Int)=>((n,()),())) rfl rfl)
theorem y1Y:ConOk Tryz.prog 157 yHk:=(yYJ).mono (fun x r _ h=>(y0X x.1).trans h)
theorem y4W (q:Int):yuP q=yew q:=rfl
end
end
end Go.Tf
