/- Functions of the program, and what they come to. -/
import Derived.Test.YtgmadfpnljibhaaGreatArrsF17
namespace Go.Tf
noncomputable section
open Go.Proofs
set_option synthInstance.maxHeartbeats 400000
set_option synthInstance.maxSize 10000
set_option linter.unusedVariables false
set_option linter.unusedSimpArgs false
set_option maxRecDepth 100000
section
def ymi:Code:=(Tryz.f261.body).getD .skip
def yr9:Env:=zj2 TT [(263,yyK),(286,yrg)] []
theorem yPq:FrOk Tryz.prog ⟨yr9,39,fun _=>none⟩ ymi:=zj6 yc yd ⟨yLj,yCw,trivial⟩
def yDK:Nat→Option Seg:=fun _=>none
def ycY:Shape:=⟨[(0,false,[.ptr 1000000000 0]),(2,false,[.int .i64])],[(1000000000,[.int .i64,.int .i64,.int .i64,.at 800000000,.int .i64,.int .i64,.int .i64,.int .i64,.int .i64,.at 800000001,.int .i64,.bool,.bool])],[(800000000,tM,(.pr (.ow .fz) (.pr (.ow (.pr .fz .fz)) (.pr .fz (.ow .fz))))),(800000001,tW,(.pr .fz .fz))]⟩
def yiF:Shape:=⟨[(0,false,[.ptr 1000000000 0]),(2,false,[.ci .i64 0])],[(1000000000,[.int .i64,.int .i64,.int .i64,.at 800000000,.int .i64,.int .i64,.int .i64,.int .i64,.int .i64,.at 800000001,.int .i64,.bool,.bool])],[(800000000,tM,(.pr (.ow .fz) (.pr (.ow (.pr .fz .fz)) (.pr .fz (.ow .fz))))),(800000001,tW,(.pr .fz .fz))]⟩
def yip:Shape:=⟨[],[(1000000000,[.int .i64,.int .i64,.int .i64,.at 800000000,.int .i64,.int .i64,.int .i64,.int .i64,.int .i64,.at 800000001,.int .i64,.bool,.bool])],[(800000000,tM,(.pr (.ow .fz) (.pr (.ow (.pr .fz .fz)) (.pr .fz (.ow .fz))))),(800000001,tW,(.pr .fz .fz))]⟩
def yof:Shape:=⟨[],[],[]⟩
abbrev ytr (v0:Int) (v1:dA):(ycY).X:=((((),()),(v0,()),()),((v1.1,v1.2.1.1,v1.2.1.2,(),v1.2.2.2.1,v1.2.2.2.2.1,v1.2.2.2.2.2.1,v1.2.2.2.2.2.2.1,v1.2.2.2.2.2.2.2.1,(),v1.2.2.2.2.2.2.2.2.2.1,v1.2.2.2.2.2.2.2.2.2.2.1,v1.2.2.2.2.2.2.2.2.2.2.2,()),()),(v1.2.2.1,v1.2.2.2.2.2.2.2.2.1,()))
abbrev yPO (v0:dA):(yiF).X:=((((),()),((),()),()),((v0.1,v0.2.1.1,v0.2.1.2,(),v0.2.2.2.1,v0.2.2.2.2.1,v0.2.2.2.2.2.1,v0.2.2.2.2.2.2.1,v0.2.2.2.2.2.2.2.1,(),v0.2.2.2.2.2.2.2.2.2.1,v0.2.2.2.2.2.2.2.2.2.2.1,v0.2.2.2.2.2.2.2.2.2.2.2,()),()),(v0.2.2.1,v0.2.2.2.2.2.2.2.2.1,()))
abbrev yCp (v0:dA):(yip).X:=((),((v0.1,v0.2.1.1,v0.2.1.2,(),v0.2.2.2.1,v0.2.2.2.2.1,v0.2.2.2.2.2.1,v0.2.2.2.2.2.2.1,v0.2.2.2.2.2.2.2.1,(),v0.2.2.2.2.2.2.2.2.2.1,v0.2.2.2.2.2.2.2.2.2.2.1,v0.2.2.2.2.2.2.2.2.2.2.2,()),()),(v0.2.2.1,v0.2.2.2.2.2.2.2.2.1,()))
def ytP (v0 v1 v2 v3 v4 v5 v6 v7 v8 v9:Int) (v10 v11:Bool) (v12:List dM) (v13:List dW):Option ((ycY).X ⊕ ((yip).X ⊕ (yof).X)) :=
 bif (ltb v0 (v12.length:Int)) then
 bif (inb v0 v12.length) then
 bif (!((((nth v12 v0 ([],[],false,[])).2).2).1)) then
 let r3:=yrY (v1,(v2,v3),v12,v4,v5,v6,v7,v8,v13,v9,v10,v11)
 bif r3.1 then
 bif (inb v0 r3.2.2.2.1.length) then
 let r4:=yc5 ((nth r3.2.2.2.1 v0 ([],[],false,[])).1,((nth r3.2.2.2.1 v0 ([],[],false,[])).2).1,(((nth r3.2.2.2.1 v0 ([],[],false,[])).2).2))
 bif (inb v0 r3.2.2.2.1.length) then
 some (.inl ((((),()),((IntKind.i64.wrap (v0+1)),()),()),((r3.2.1,r3.2.2.1.1,r3.2.2.1.2,(),r3.2.2.2.2.1,r3.2.2.2.2.2.1,r3.2.2.2.2.2.2.1,r3.2.2.2.2.2.2.2.1,r3.2.2.2.2.2.2.2.2.1,(),r3.2.2.2.2.2.2.2.2.2.2.1,r3.2.2.2.2.2.2.2.2.2.2.2.1,r3.2.2.2.2.2.2.2.2.2.2.2.2,()),()),((r3.2.2.2.1.set (v0).toNat r4),r3.2.2.2.2.2.2.2.2.2.1,())))
 else none
 else none
 else
 some (.inl ((((),()),((IntKind.i64.wrap (v0+1)),()),()),((r3.2.1,r3.2.2.1.1,r3.2.2.1.2,(),r3.2.2.2.2.1,r3.2.2.2.2.2.1,r3.2.2.2.2.2.2.1,r3.2.2.2.2.2.2.2.1,r3.2.2.2.2.2.2.2.2.1,(),r3.2.2.2.2.2.2.2.2.2.2.1,r3.2.2.2.2.2.2.2.2.2.2.2.1,r3.2.2.2.2.2.2.2.2.2.2.2.2,()),()),(r3.2.2.2.1,r3.2.2.2.2.2.2.2.2.2.1,())))
 else
 some (.inl ((((),()),((IntKind.i64.wrap (v0+1)),()),()),((v1,v2,v3,(),v4,v5,v6,v7,v8,(),v9,v10,v11,()),()),(v12,v13,())))
 else none
 else
 some (.inr (.inl ((),((v1,v2,v3,(),v4,v5,v6,v7,v8,(),v9,v10,v11,()),()),(v12,v13,()))))
def ydu (x:(ycY).X):=ytP x.1.2.1.1 x.2.1.1.1 x.2.1.1.2.1 x.2.1.1.2.2.1 x.2.1.1.2.2.2.2.1 x.2.1.1.2.2.2.2.2.1 x.2.1.1.2.2.2.2.2.2.1 x.2.1.1.2.2.2.2.2.2.2.1 x.2.1.1.2.2.2.2.2.2.2.2.1 x.2.1.1.2.2.2.2.2.2.2.2.2.2.1 x.2.1.1.2.2.2.2.2.2.2.2.2.2.2.1 x.2.1.1.2.2.2.2.2.2.2.2.2.2.2.2.1 x.2.2.1 x.2.2.2.1
def yBZ (x:(yiF).X):(ycY).X:=((((),()),(0,()),()),((x.2.1.1.1,x.2.1.1.2.1,x.2.1.1.2.2.1,(),x.2.1.1.2.2.2.2.1,x.2.1.1.2.2.2.2.2.1,x.2.1.1.2.2.2.2.2.2.1,x.2.1.1.2.2.2.2.2.2.2.1,x.2.1.1.2.2.2.2.2.2.2.2.1,(),x.2.1.1.2.2.2.2.2.2.2.2.2.2.1,x.2.1.1.2.2.2.2.2.2.2.2.2.2.2.1,x.2.1.1.2.2.2.2.2.2.2.2.2.2.2.2.1,()),()),(x.2.2.1,x.2.2.2.1,()))
def yEi:Code:=(zdD ymi 64 12).getD .skip
theorem yRV:zdD ymi 64 3=some (.block 0 (.loop yEi)):=by kernel_rfl
theorem yUZ (x:(ycY).X):zg0 ⟨yr9,39,yDK⟩ 0 yEi 12 ycY yip yof x=ydu x:=by kernel_rfl
def yCi (x:(yiF).X):Nat:=18446744073709551616
def yuw (x:(yiF).X):Option ((yip).X ⊕ (yof).X):=zz ydu (yCi x) (yBZ x)
def yCX:Seg:=⟨yiF,yip,yof,yuw⟩
def yDL:Nat→Option Seg:=fun q=>bif Nat.beq q 3 then some yCX else yDK q
theorem yPr:FrOk Tryz.prog ⟨yr9,39,yDL⟩ ymi:=(yPq).loop (sg:=yCX) ycY yBZ (by decide) yRV ydu yCi (by decide) (fun _=>rfl) (fun x r _ h=>h) yUZ
abbrev yhS:List Par:= [.pt tA (.pr .fz (.pr (.pr .fz .fz) (.pr (.ow (.pr (.ow .fz) (.pr (.ow (.pr .fz .fz)) (.pr .fz (.ow .fz))))) (.pr .fz (.pr .fz (.pr .fz (.pr .fz (.pr .fz (.pr (.ow (.pr .fz .fz)) (.pr .fz (.pr .fz .fz)))))))))))]
abbrev ysH:List OT:= []
def yoO (a0:dA):Option (ResD ysH×MutD yhS) :=
 zkh (yuw ((((),()),((),()),()),((a0.1,a0.2.1.1,a0.2.1.2,(),a0.2.2.2.1,a0.2.2.2.2.1,a0.2.2.2.2.2.1,a0.2.2.2.2.2.2.1,a0.2.2.2.2.2.2.2.1,(),a0.2.2.2.2.2.2.2.2.2.1,a0.2.2.2.2.2.2.2.2.2.2.1,a0.2.2.2.2.2.2.2.2.2.2.2,()),()),(a0.2.2.1,a0.2.2.2.2.2.2.2.2.1,()))) (fun y4 =>
 some ((),((y4.2.1.1.1,(y4.2.1.1.2.1,y4.2.1.1.2.2.1),y4.2.2.1,y4.2.1.1.2.2.2.2.1,y4.2.1.1.2.2.2.2.2.1,y4.2.1.1.2.2.2.2.2.2.1,y4.2.1.1.2.2.2.2.2.2.2.1,y4.2.1.1.2.2.2.2.2.2.2.2.1,y4.2.2.2.1,y4.2.1.1.2.2.2.2.2.2.2.2.2.2.1,y4.2.1.1.2.2.2.2.2.2.2.2.2.2.2.1,y4.2.1.1.2.2.2.2.2.2.2.2.2.2.2.2.1),()))) (fun y4 =>
 none)
theorem yYz (x:InD yhS):zjx ⟨yr9,39,yDL⟩ Tryz.f261.results.toList ymi yhS ysH x=yoO x.1:=by kernel_rfl
theorem yUq:ConOk Tryz.prog 261 ⟨yhS,ysH,fun x=>yoO x.1⟩:=zj1 (yPr) Tryz.func261 (by kernel_rfl) (by kernel_rfl) Tryz.ntmps261.symm (by decide) (fun x r h=>(yYz x).trans h)
def ydA (a0:dA):dA:=ycI a0
theorem yWw (a0:dA) (hk:zi2 yhS (a0,())):yoO a0=(fun n=>some ((),(n,()))) (ydA a0):=by
 have hb:a0.2.2.1.length * 80≤2 ^ 47:=hk.1.2.2.1.1
 have h1:yuw (yPO a0)=some (.inl (yCp (ycI a0))) :=
  zj8 (step:=ydu) a0.2.2.1.length (fun i s=>ytr i s) yee (fun _ s=>s.2.2.1.length=a0.2.2.1.length) (fun s=> .inl (yCp s)) (fun i s hi hs=>⟨by
   simp only [ydu,ytr,ytP,hs,zj4 (show (i:Int) < a0.2.2.1.length by omega),cond_true,wr (show -9223372036854775808≤(i:Int)+1 by omega) (by omega),Int.natCast_add,Int.natCast_one,Int.toNat_natCast,zkl hi,zkr,yU1,ygv,yc5,yee,setMem]
   cases (nth s.2.2.1 i noMem).2.2.1<;>cases (opA s).1<;>simp only [cond_true,cond_false,Bool.not_true,Bool.not_false,ygv,Int.toNat_natCast],(yxA s i).trans hs⟩) (fun s hs=>by simp only [ydu,ytr,ytP,hs,zkx (Int.le_refl _),cond_false]) a0 rfl _ (by show _ < 18446744073709551616; omega)
 unfold yoO ydA
 rw [h1]; rfl
def yor:Con:=⟨yhS,ysH,fun x=>(fun n=>some ((),(n,()))) (ydA x.1)⟩
theorem yxb:ConOk Tryz.prog 261 yor:=(yUq).mono (fun x r hk h=>(yWw x.1 hk).trans h)
end
section
def ymh:Code:=(Tryz.f203.body).getD .skip
def yr8:Env:=zj2 TT [(140,yri),(207,ykY),(261,yor)] []
theorem yPo:FrOk Tryz.prog ⟨yr8,63,fun _=>none⟩ ymh:=zj6 yc yd ⟨yCy,ysN,yxb,trivial⟩
def yDI:Nat→Option Seg:=fun _=>none
def yca:Shape:=⟨[(0,false,[.ptr 1000000000 0]),(2,false,[.int .i64])],[(1000000000,[.int .i64,.int .i64,.int .i64,.at 800000000,.int .i64,.int .i64,.int .i64,.int .i64,.int .i64,.at 800000001,.int .i64,.bool,.bool])],[(800000000,tM,(.pr (.ow .fz) (.pr (.ow (.pr .fz .fz)) (.pr .fz (.ow .fz))))),(800000001,tW,(.pr .fz .fz))]⟩
def yg8:Shape:=⟨[(0,false,[.ptr 1000000000 0]),(2,false,[.ci .i64 0])],[(1000000000,[.int .i64,.int .i64,.int .i64,.at 800000000,.int .i64,.int .i64,.int .i64,.int .i64,.int .i64,.at 800000001,.int .i64,.bool,.bool])],[(800000000,tM,(.pr (.ow .fz) (.pr (.ow (.pr .fz .fz)) (.pr .fz (.ow .fz))))),(800000001,tW,(.pr .fz .fz))]⟩
def ygW:Shape:=⟨[(0,false,[.ptr 1000000000 0])],[(1000000000,[.int .i64,.int .i64,.int .i64,.at 800000000,.int .i64,.int .i64,.int .i64,.int .i64,.int .i64,.at 800000001,.int .i64,.bool,.bool])],[(800000000,tM,(.pr (.ow .fz) (.pr (.ow (.pr .fz .fz)) (.pr .fz (.ow .fz))))),(800000001,tW,(.pr .fz .fz))]⟩
def ylD:Shape:=⟨[],[],[]⟩
abbrev yru (v0:Int) (v1:dA):(yca).X:=((((),()),(v0,()),()),((v1.1,v1.2.1.1,v1.2.1.2,(),v1.2.2.2.1,v1.2.2.2.2.1,v1.2.2.2.2.2.1,v1.2.2.2.2.2.2.1,v1.2.2.2.2.2.2.2.1,(),v1.2.2.2.2.2.2.2.2.2.1,v1.2.2.2.2.2.2.2.2.2.2.1,v1.2.2.2.2.2.2.2.2.2.2.2,()),()),(v1.2.2.1,v1.2.2.2.2.2.2.2.2.1,()))
abbrev yM3 (v0:dA):(yg8).X:=((((),()),((),()),()),((v0.1,v0.2.1.1,v0.2.1.2,(),v0.2.2.2.1,v0.2.2.2.2.1,v0.2.2.2.2.2.1,v0.2.2.2.2.2.2.1,v0.2.2.2.2.2.2.2.1,(),v0.2.2.2.2.2.2.2.2.2.1,v0.2.2.2.2.2.2.2.2.2.2.1,v0.2.2.2.2.2.2.2.2.2.2.2,()),()),(v0.2.2.1,v0.2.2.2.2.2.2.2.2.1,()))
abbrev yAn (v0:dA):(ygW).X:=((((),()),()),((v0.1,v0.2.1.1,v0.2.1.2,(),v0.2.2.2.1,v0.2.2.2.2.1,v0.2.2.2.2.2.1,v0.2.2.2.2.2.2.1,v0.2.2.2.2.2.2.2.1,(),v0.2.2.2.2.2.2.2.2.2.1,v0.2.2.2.2.2.2.2.2.2.2.1,v0.2.2.2.2.2.2.2.2.2.2.2,()),()),(v0.2.2.1,v0.2.2.2.2.2.2.2.2.1,()))
def yrK (v0 v1 v2 v3 v4 v5 v6 v7 v8 v9:Int) (v10 v11:Bool) (v12:List dM) (v13:List dW):Option ((yca).X ⊕ ((ygW).X ⊕ (ylD).X)) :=
 bif (ltb v0 (v12.length:Int)) then
 let r3:=yl (v1,v8,v0,v2,v3,v7,v4,v5)
 bnd (yeJ (v1,(v2,v3),v12,v4,v5,v6,v7,v8,v13,v9,v10,v11) v0 (v8.tmod 2) r3) fun r4 =>
 some (.inl ((((),()),((IntKind.i64.wrap (v0+1)),()),()),((r4.2.1.1,r4.2.1.2.1.1,r4.2.1.2.1.2,(),r4.2.1.2.2.2.1,r4.2.1.2.2.2.2.1,r4.2.1.2.2.2.2.2.1,r4.2.1.2.2.2.2.2.2.1,r4.2.1.2.2.2.2.2.2.2.1,(),r4.2.1.2.2.2.2.2.2.2.2.2.1,r4.2.1.2.2.2.2.2.2.2.2.2.2.1,r4.2.1.2.2.2.2.2.2.2.2.2.2.2,()),()),(r4.2.1.2.2.1,r4.2.1.2.2.2.2.2.2.2.2.1,())))
 else
 some (.inr (.inl ((((),()),()),((v1,v2,v3,(),v4,v5,v6,v7,v8,(),v9,v10,v11,()),()),(v12,v13,()))))
def ycF (x:(yca).X):=yrK x.1.2.1.1 x.2.1.1.1 x.2.1.1.2.1 x.2.1.1.2.2.1 x.2.1.1.2.2.2.2.1 x.2.1.1.2.2.2.2.2.1 x.2.1.1.2.2.2.2.2.2.1 x.2.1.1.2.2.2.2.2.2.2.1 x.2.1.1.2.2.2.2.2.2.2.2.1 x.2.1.1.2.2.2.2.2.2.2.2.2.2.1 x.2.1.1.2.2.2.2.2.2.2.2.2.2.2.1 x.2.1.1.2.2.2.2.2.2.2.2.2.2.2.2.1 x.2.2.1 x.2.2.2.1
def yz6 (x:(yg8).X):(yca).X:=((((),()),(0,()),()),((x.2.1.1.1,x.2.1.1.2.1,x.2.1.1.2.2.1,(),x.2.1.1.2.2.2.2.1,x.2.1.1.2.2.2.2.2.1,x.2.1.1.2.2.2.2.2.2.1,x.2.1.1.2.2.2.2.2.2.2.1,x.2.1.1.2.2.2.2.2.2.2.2.1,(),x.2.1.1.2.2.2.2.2.2.2.2.2.2.1,x.2.1.1.2.2.2.2.2.2.2.2.2.2.2.1,x.2.1.1.2.2.2.2.2.2.2.2.2.2.2.2.1,()),()),(x.2.2.1,x.2.2.2.1,()))
def yBv:Code:=(zdD ymh 64 52).getD .skip
theorem yOp:zdD ymh 64 13=some (.block 0 (.loop yBv)):=by kernel_rfl
theorem yRd (x:(yca).X):zg0 ⟨yr8,63,yDI⟩ 0 yBv 52 yca ygW ylD x=ycF x:=by kernel_rfl
def yAi (x:(yg8).X):Nat:=18446744073709551616
def ys4 (x:(yg8).X):Option ((ygW).X ⊕ (ylD).X):=zz ycF (yAi x) (yz6 x)
def yAA:Seg:=⟨yg8,ygW,ylD,ys4⟩
def yDJ:Nat→Option Seg:=fun q=>bif Nat.beq q 13 then some yAA else yDI q
theorem yPp:FrOk Tryz.prog ⟨yr8,63,yDJ⟩ ymh:=(yPo).loop (sg:=yAA) yca yz6 (by decide) yOp ycF yAi (by decide) (fun _=>rfl) (fun x r _ h=>h) yRd
abbrev yhR:List Par:= [.pt tA (.pr .fz (.pr (.pr .fz .fz) (.pr (.ow (.pr (.ow .fz) (.pr (.ow (.pr .fz .fz)) (.pr .fz (.ow .fz))))) (.pr .fz (.pr .fz (.pr .fz (.pr .fz (.pr .fz (.pr (.ow (.pr .fz .fz)) (.pr .fz (.pr .fz .fz)))))))))))]
abbrev ysG:List OT:= []
def yoN (a0:dA):Option (ResD ysG×MutD yhR) :=
 zkh (ys4 ((((),()),((),()),()),((a0.1,a0.2.1.1,a0.2.1.2,(),a0.2.2.2.1,a0.2.2.2.2.1,a0.2.2.2.2.2.1,a0.2.2.2.2.2.2.1,(IntKind.i64.wrap (a0.2.2.2.2.2.2.2.1+1)),(),a0.2.2.2.2.2.2.2.2.2.1,a0.2.2.2.2.2.2.2.2.2.2.1,a0.2.2.2.2.2.2.2.2.2.2.2,()),()),(a0.2.2.1,a0.2.2.2.2.2.2.2.2.1,()))) (fun y4 =>
 let r6:=ydA (y4.2.1.1.1,(y4.2.1.1.2.1,y4.2.1.1.2.2.1),y4.2.2.1,y4.2.1.1.2.2.2.2.1,y4.2.1.1.2.2.2.2.2.1,y4.2.1.1.2.2.2.2.2.2.1,y4.2.1.1.2.2.2.2.2.2.2.1,y4.2.1.1.2.2.2.2.2.2.2.2.1,y4.2.2.2.1,y4.2.1.1.2.2.2.2.2.2.2.2.2.2.1,y4.2.1.1.2.2.2.2.2.2.2.2.2.2.2.1,y4.2.1.1.2.2.2.2.2.2.2.2.2.2.2.2.1)
 some ((),(r6,()))) (fun y4 =>
 none)
theorem yYy (x:InD yhR):zjx ⟨yr8,63,yDJ⟩ Tryz.f203.results.toList ymh yhR ysG x=yoN x.1:=by kernel_rfl
theorem yUp:ConOk Tryz.prog 203 ⟨yhR,ysG,fun x=>yoN x.1⟩:=zj1 (yPp) Tryz.func203 (by kernel_rfl) (by kernel_rfl) Tryz.ntmps203.symm (by decide) (fun x r h=>(yYy x).trans h)
def yas (a0:dA):dA:=markA a0
theorem y0E (a:dA) (i:Nat):(yqB a i).2.2.1.length=a.2.2.1.length:=yAQ _ _ _ _
theorem yWv (a0:dA) (hk:zi2 yhR (a0,())):yoN a0=(fun n=>some ((),(n,()))) (yas a0):=by
 have hb:a0.2.2.1.length * 80≤2 ^ 47:=hk.1.2.2.1.1
 have h1:ys4 (yM3 (ysI a0))=some (.inl (yAn ((List.range a0.2.2.1.length).foldl yqB (ysI a0)))) :=
  zj8 (step:=ycF) a0.2.2.1.length (fun i s=>yru i s) yqB (fun _ s=>s.2.2.1.length=a0.2.2.1.length) (fun s=> .inl (yAn s)) (fun i s hi hs=>⟨by
   simp only [ycF,yru,yrK,hs,zj4 (show (i:Int) < a0.2.2.1.length by omega),cond_true,wr (show -9223372036854775808≤(i:Int)+1 by omega) (by omega),Int.natCast_add,Int.natCast_one,Int.toNat_natCast,zkr]
   rw [ym6 s i (s.2.2.2.2.2.2.2.1.tmod 2) (yl (s.1,s.2.2.2.2.2.2.2.1,(i:Int),s.2.1.1,s.2.1.2,s.2.2.2.2.2.2.1,s.2.2.2.1,s.2.2.2.2.1)) (zkl (by rw [hs]; exact hi))]
   rfl,(y0E s i).trans hs⟩) (fun s hs=>by simp only [ycF,yru,yrK,hs,zkx (Int.le_refl _),cond_false]) (ysI a0) rfl _ (by show _ < 18446744073709551616; omega)
 unfold yoN yas markA
 exact (congrArg (fun z=>zkh z _ _) h1).trans rfl
def yoq:Con:=⟨yhR,ysG,fun x=>(fun n=>some ((),(n,()))) (yas x.1)⟩
theorem yxa:ConOk Tryz.prog 203 yoq:=(yUp).mono (fun x r hk h=>(yWv x.1 hk).trans h)
end
section
def yDl:Code:=(Tryz.f105.body).getD .skip
def yDZ:Env:=zj2 TT [(138,yoo),(139,yop),(203,yoq)] []
theorem yKG:FrOk Tryz.prog ⟨yDZ,27,fun _=>none⟩ yDl:=zj6 yc yd ⟨yw8,yw9,yxa,trivial⟩
def yLT:Nat→Option Seg:=fun _=>none
abbrev ycJ:List Par:= [.pt tA (.pr .fz (.pr (.pr .fz .fz) (.pr (.ow (.pr (.ow .fz) (.pr (.ow (.pr .fz .fz)) (.pr .fz (.ow .fz))))) (.pr .fz (.pr .fz (.pr .fz (.pr .fz (.pr .fz (.pr (.ow (.pr .fz .fz)) (.pr .fz (.pr .fz .fz)))))))))))]
abbrev yiK:List OT:= [⟨false,tI,.fz⟩]
def yj7 (a0:dA):Option (ResD yiK×MutD ycJ) :=
 let r1:=ybY a0.2.1
 let r2:=ybc r1
 bif (inb a0.2.2.2.1 a0.2.2.1.length) then
 let r3:=yas (a0.1,a0.2.1,(a0.2.2.1.set (a0.2.2.2.1).toNat r2),a0.2.2.2.1,0,a0.2.2.2.2.2)
 bif r3.2.2.2.2.2.2.2.2.2.2.1 then
 some ((6,()),(r3,()))
 else
 some ((0,()),(r3,()))
 else none
theorem ySn (x:InD ycJ):zjx ⟨yDZ,27,yLT⟩ Tryz.f105.results.toList yDl ycJ yiK x=yj7 x.1:=by kernel_rfl
theorem yNw:ConOk Tryz.prog 105 ⟨ycJ,yiK,fun x=>yj7 x.1⟩:=zj1 (yKG) Tryz.func105 (by kernel_rfl) (by kernel_rfl) Tryz.ntmps105.symm (by decide) (fun x r h=>(ySn x).trans h)
def yos (a0:dA):Int×dA:=(bif downA (markA (spareNew a0)) then 6 else 0,markA (spareNew a0))
def yjh (a0:dA):Bool:=yb a0.2.1&&inb a0.2.2.2.1 a0.2.2.1.length
theorem yQk (a0:dA) (hk:zi2 ycJ (a0,())) (hq:yjh a0=true):yj7 a0=(fun n=>some ((n.1,()),(n.2,()))) (yos a0):=by
 simp only [yjh,Bool.and_eq_true]at hq
 have hg:=yi.1 hq.1
 unfold yj7 yos
 simp only [ybY,wr (show -9223372036854775808≤6+a0.2.1.2 by omega) (by omega),hq.2,ybc,yas]
 show (bif downA (markA (spareNew a0)) then some ((6,()),(markA (spareNew a0),())) else some ((0,()),(markA (spareNew a0),())))=_
 cases downA (markA (spareNew a0))<;>rfl
def yjg (a0:dA):Option (ResD yiK×MutD ycJ):=bif yjh a0 then (fun n=>some ((n.1,()),(n.2,()))) (yos a0) else none
theorem yQ0 (a0:dA) (h:yjh a0=true):yjg a0=(fun n=>some ((n.1,()),(n.2,()))) (yos a0):=by unfold yjg; rw [h]; rfl
def yzT:Con:=⟨ycJ,yiK,fun x=>yjg x.1⟩
theorem yQY:ConOk Tryz.prog 105 yzT:=(yNw).mono (fun x r hk h=>zks h (fun hq=>yQk x.1 hk hq))
end
section
def yFs:Code:=(Tryz.f109.body).getD .skip
def yGa:Env:=zj2 TT [(141,yc0),(206,ys9),(207,ykY)] []
theorem yMC:FrOk Tryz.prog ⟨yGa,49,fun _=>none⟩ yFs:=zj6 yc yd ⟨ygu,yET,ysN,trivial⟩
def yN9:Nat→Option Seg:=fun _=>none
abbrev ydV:List Par:= [.pt tA (.pr .fz (.pr (.pr .fz .fz) (.pr (.ow (.pr (.ow .fz) (.pr (.ow (.pr .fz .fz)) (.pr .fz (.ow .fz))))) (.pr .fz (.pr .fz (.pr .fz (.pr .fz (.pr .fz (.pr (.ow (.pr .fz .fz)) (.pr .fz (.pr .fz .fz)))))))))))]
abbrev ykQ:List OT:= [⟨false,tI,.fz⟩]
def ylX (a0:dA):Option (ResD ykQ×MutD ydV) :=
 bnd (yld a0 a0.2.2.2.2.1) fun r1 =>
 bif (!r1.1.2.1) then
 some ((5,()),(a0,()))
 else
 let r2:=yaq a0.2.2.2.2.1
 bif (inb a0.2.2.2.1 r1.1.1.length) then
 bnd (yeJ a0 a0.2.2.2.1 r2 ([(nth r1.1.1 a0.2.2.2.1 0)]:List Int)) fun r3 =>
 bif r3.2.1.2.2.2.2.2.2.2.2.2.2.1 then
 some ((6,()),(r3.2.1,()))
 else
 some ((0,()),((r3.2.1.1,r3.2.1.2.1,r3.2.1.2.2.1,r3.2.1.2.2.2.1,(IntKind.i64.wrap (r3.2.1.2.2.2.2.1+1)),r3.2.1.2.2.2.2.2),()))
 else none
theorem yVH (x:InD ydV):zjx ⟨yGa,49,yN9⟩ Tryz.f109.results.toList yFs ydV ykQ x=ylX x.1:=by kernel_rfl
theorem yQE:ConOk Tryz.prog 109 ⟨ydV,ykQ,fun x=>ylX x.1⟩:=zj1 (yMC) Tryz.func109 (by kernel_rfl) (by kernel_rfl) Tryz.ntmps109.symm (by decide) (fun x r h=>(yVH x).trans h)
def yqF (a0:dA):Int×dA:=stepOne a0
def yle (a0:dA):Bool:=yb a0.2.1&&(inb a0.2.2.2.1 a0.2.2.1.length&&inb a0.2.2.2.1 a0.2.1.1.toNat)
theorem yTH (a0:dA) (hk:zi2 ydV (a0,())) (hq:yle a0=true):ylX a0=(fun n=>some ((n.1,()),(n.2,()))) (yqF a0):=by
 simp only [yle,Bool.and_eq_true]at hq
 unfold ylX yqF stepOne
 rw [yEW a0 a0.2.2.2.2.1 hq.1]
 simp only [zkc,ygs,yd9]
 cases hw:(yN a0 a0.2.2.2.2.1).2
 ·rfl
 ·rw [yLw hw,hq.2.2,ym6 a0 a0.2.2.2.1 (dataAt a0.2.2.2.2.1) [nth (yN a0 a0.2.2.2.2.1).1 a0.2.2.2.1 0] hq.2.1]
  simp only [zkc,ypO,Bool.not_true,cond_false,cond_true]
  show (bif downA (yhW a0) then some ((6,()),(yhW a0,())) else some ((0,()),(y1G (yhW a0),())))=_
  cases downA (yhW a0)<;>rfl
def ylc (a0:dA):Option (ResD ykQ×MutD ydV):=bif yle a0 then (fun n=>some ((n.1,()),(n.2,()))) (yqF a0) else none
theorem yUH (a0:dA) (h:yle a0=true):ylc a0=(fun n=>some ((n.1,()),(n.2,()))) (yqF a0):=by unfold ylc; rw [h]; rfl
def yBH:Con:=⟨ydV,ykQ,fun x=>ylc x.1⟩
theorem yUC:ConOk Tryz.prog 109 yBH:=(yQE).mono (fun x r hk h=>zks h (fun hq=>yTH x.1 hk hq))
end
section
def yHJ:Code:=(Tryz.f110.body).getD .skip
def yIg:Env:=zj2 TT [(150,yz)] []
theorem yO4:FrOk Tryz.prog ⟨yIg,9,fun _=>none⟩ yHJ:=zj6 yc yd ⟨yM,trivial⟩
def yRz:Nat→Option Seg:=fun _=>none
abbrev ymv:List Par:= [.pt tU .fz,.rd tI]
abbrev ysx:List OT:= [⟨false,tB,.fz⟩]
def yaL (a0:dU) (a1:Int):Option (ResD ysx×MutD ymv) :=
 bnd (ye a0 a1) fun r1 =>
 some (((r1.1.1==0),()),(r1.2.1,()))
theorem yYl (x:InD ymv):zjx ⟨yIg,9,yRz⟩ Tryz.f110.results.toList yHJ ymv ysx x=yaL x.1 x.2.1:=by kernel_rfl
theorem yUc:ConOk Tryz.prog 110 ⟨ymv,ysx,fun x=>yaL x.1 x.2.1⟩:=zj1 (yO4) Tryz.func110 (by kernel_rfl) (by kernel_rfl) Tryz.ntmps110.symm (by decide) (fun x r h=>(yYl x).trans h)
def yEu:Con:=⟨ymv,ysx,fun x=>yaL x.1 x.2.1⟩
theorem yXc:ConOk Tryz.prog 110 yEu:=yUc
theorem y0P (u:dU) (n:Int) (h:yD u): ∃ (r:Bool) (u':dU),yaL u n=some ((r,()),(u',()))∧yD u':=by
 unfold yaL
 obtain ⟨r,u1,e1,_,d1⟩:=yy u n h
 simp only [e1,zkc]
 exact ⟨_,_,rfl,d1⟩
end
section
def yHI:Code:=(Tryz.f115.body).getD .skip
def yIf:Env:=zj2 TT [(124,ycn)] []
theorem yO3:FrOk Tryz.prog ⟨yIf,6,fun _=>none⟩ yHI:=zj6 yc yd ⟨yfu,trivial⟩
def yRy:Nat→Option Seg:=fun _=>none
abbrev ymu:List Par:= [.pt tU .fz]
abbrev ysw:List OT:= [⟨false,tI,.fz⟩]
def yX (a0:dU):Option (ResD ysw×MutD ymu) :=
 bnd (yp a0 ([0,1,2,7,255,256,4660,65535]:List Int)) fun r1 =>
 some ((r1.1.1,()),(r1.2.1,()))
theorem yYk (x:InD ymu):zjx ⟨yIf,6,yRy⟩ Tryz.f115.results.toList yHI ymu ysw x=yX x.1:=by kernel_rfl
theorem yUb:ConOk Tryz.prog 115 ⟨ymu,ysw,fun x=>yX x.1⟩:=zj1 (yO3) Tryz.func115 (by kernel_rfl) (by kernel_rfl) Tryz.ntmps115.symm (by decide) (fun x r h=>(yYk x).trans h)
def yu8:Con:=⟨ymu,ysw,fun x=>yX x.1⟩
theorem yGJ:ConOk Tryz.prog 115 yu8:=yUb
theorem y0O (u:List Int×Int×Int) (h:yD u): ∃ (r:Int) (u':List Int×Int×Int),yX u=some ((r,()),(u',()))∧ya r 0 65535=true∧yD u':=by
 unfold yX
 obtain ⟨r1,u1,e1,q1,d1⟩:=yi3 u [0,1,2,7,255,256,4660,65535] h (by simp)
 simp only [e1,zkc]
 refine ⟨_,_,rfl,?_,d1⟩
 simp only [List.mem_cons,List.not_mem_nil,or_false]at q1
 exact y3i (by omega) (by omega)
end
end
end Go.Tf
