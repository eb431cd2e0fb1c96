/- Functions of the program, and what they come to. -/
import Derived.Test.YtgmadfpnljibhaaGreatExactFlushStripeF7
namespace Go.Tf
noncomputable section
open Go.Proofs
set_option synthInstance.maxHeartbeats 400000
set_option synthInstance.maxSize 10000
set_option linter.unusedVariables false
set_option linter.unusedSimpArgs false
set_option maxRecDepth 100000
section
def ymB:Code:=(Tryz.f261.body).getD .skip
def ysq:Env:=zki TT [(263,yzn),(286,yAA)] []
theorem yPR:FrOk Tryz.prog ⟨ysq,39,fun _=>none⟩ ymB:=zkp yb yc ⟨yLL,yRf,trivial⟩
def yEE:Nat→Option Seg:=fun _=>none
def ycR:Shape:=⟨[(0,false,[.ptr 1000000000 0]),(2,false,[.int .i64])],[(1000000000,[.int .i64,.int .i64,.int .i64,.at 800000000,.int .i64,.int .i64,.int .i64,.int .i64,.int .i64,.at 800000001,.int .i64,.bool,.bool])],[(800000000,tM,(.pr (.ow .fz) (.pr (.ow (.pr .fz .fz)) (.pr .fz (.ow .fz))))),(800000001,tW,(.pr .fz .fz))]⟩
def yix:Shape:=⟨[(0,false,[.ptr 1000000000 0]),(2,false,[.ci .i64 0])],[(1000000000,[.int .i64,.int .i64,.int .i64,.at 800000000,.int .i64,.int .i64,.int .i64,.int .i64,.int .i64,.at 800000001,.int .i64,.bool,.bool])],[(800000000,tM,(.pr (.ow .fz) (.pr (.ow (.pr .fz .fz)) (.pr .fz (.ow .fz))))),(800000001,tW,(.pr .fz .fz))]⟩
def yie:Shape:=⟨[],[(1000000000,[.int .i64,.int .i64,.int .i64,.at 800000000,.int .i64,.int .i64,.int .i64,.int .i64,.int .i64,.at 800000001,.int .i64,.bool,.bool])],[(800000000,tM,(.pr (.ow .fz) (.pr (.ow (.pr .fz .fz)) (.pr .fz (.ow .fz))))),(800000001,tW,(.pr .fz .fz))]⟩
def you:Shape:=⟨[],[],[]⟩
abbrev ytG (v0:Int) (v1:dA):(ycR).X:=((((),()),(v0,()),()),((v1.1,v1.2.1.1,v1.2.1.2,(),v1.2.2.2.1,v1.2.2.2.2.1,v1.2.2.2.2.2.1,v1.2.2.2.2.2.2.1,v1.2.2.2.2.2.2.2.1,(),v1.2.2.2.2.2.2.2.2.2.1,v1.2.2.2.2.2.2.2.2.2.2.1,v1.2.2.2.2.2.2.2.2.2.2.2,()),()),(v1.2.2.1,v1.2.2.2.2.2.2.2.2.1,()))
abbrev yQe (v0:dA):(yix).X:=((((),()),((),()),()),((v0.1,v0.2.1.1,v0.2.1.2,(),v0.2.2.2.1,v0.2.2.2.2.1,v0.2.2.2.2.2.1,v0.2.2.2.2.2.2.1,v0.2.2.2.2.2.2.2.1,(),v0.2.2.2.2.2.2.2.2.2.1,v0.2.2.2.2.2.2.2.2.2.2.1,v0.2.2.2.2.2.2.2.2.2.2.2,()),()),(v0.2.2.1,v0.2.2.2.2.2.2.2.2.1,()))
abbrev yDu (v0:dA):(yie).X:=((),((v0.1,v0.2.1.1,v0.2.1.2,(),v0.2.2.2.1,v0.2.2.2.2.1,v0.2.2.2.2.2.1,v0.2.2.2.2.2.2.1,v0.2.2.2.2.2.2.2.1,(),v0.2.2.2.2.2.2.2.2.2.1,v0.2.2.2.2.2.2.2.2.2.2.1,v0.2.2.2.2.2.2.2.2.2.2.2,()),()),(v0.2.2.1,v0.2.2.2.2.2.2.2.2.1,()))
def yt6 (v0 v1 v2 v3 v4 v5 v6 v7 v8 v9:Int) (v10 v11:Bool) (v12:List dM) (v13:List dW):Option ((ycR).X ⊕ ((yie).X ⊕ (you).X)) :=
 bif (ltb v0 (v12.length:Int)) then
 bif (inb v0 v12.length) then
 bif (!((((nth v12 v0 ([],[],false,[])).2).2).1)) then
 let r3:=ysb (v1,(v2,v3),v12,v4,v5,v6,v7,v8,v13,v9,v10,v11)
 bif r3.1 then
 bif (inb v0 r3.2.2.2.1.length) then
 let r4:=yi6 ((nth r3.2.2.2.1 v0 ([],[],false,[])).1,((nth r3.2.2.2.1 v0 ([],[],false,[])).2).1,(((nth r3.2.2.2.1 v0 ([],[],false,[])).2).2))
 bif (inb v0 r3.2.2.2.1.length) then
 some (.inl ((((),()),((IntKind.i64.wrap (v0+1)),()),()),((r3.2.1,r3.2.2.1.1,r3.2.2.1.2,(),r3.2.2.2.2.1,r3.2.2.2.2.2.1,r3.2.2.2.2.2.2.1,r3.2.2.2.2.2.2.2.1,r3.2.2.2.2.2.2.2.2.1,(),r3.2.2.2.2.2.2.2.2.2.2.1,r3.2.2.2.2.2.2.2.2.2.2.2.1,r3.2.2.2.2.2.2.2.2.2.2.2.2,()),()),((r3.2.2.2.1.set (v0).toNat r4),r3.2.2.2.2.2.2.2.2.2.1,())))
 else none
 else none
 else
 some (.inl ((((),()),((IntKind.i64.wrap (v0+1)),()),()),((r3.2.1,r3.2.2.1.1,r3.2.2.1.2,(),r3.2.2.2.2.1,r3.2.2.2.2.2.1,r3.2.2.2.2.2.2.1,r3.2.2.2.2.2.2.2.1,r3.2.2.2.2.2.2.2.2.1,(),r3.2.2.2.2.2.2.2.2.2.2.1,r3.2.2.2.2.2.2.2.2.2.2.2.1,r3.2.2.2.2.2.2.2.2.2.2.2.2,()),()),(r3.2.2.2.1,r3.2.2.2.2.2.2.2.2.2.1,())))
 else
 some (.inl ((((),()),((IntKind.i64.wrap (v0+1)),()),()),((v1,v2,v3,(),v4,v5,v6,v7,v8,(),v9,v10,v11,()),()),(v12,v13,())))
 else none
 else
 some (.inr (.inl ((),((v1,v2,v3,(),v4,v5,v6,v7,v8,(),v9,v10,v11,()),()),(v12,v13,()))))
def ydv (x:(ycR).X):=yt6 x.1.2.1.1 x.2.1.1.1 x.2.1.1.2.1 x.2.1.1.2.2.1 x.2.1.1.2.2.2.2.1 x.2.1.1.2.2.2.2.2.1 x.2.1.1.2.2.2.2.2.2.1 x.2.1.1.2.2.2.2.2.2.2.1 x.2.1.1.2.2.2.2.2.2.2.2.1 x.2.1.1.2.2.2.2.2.2.2.2.2.2.1 x.2.1.1.2.2.2.2.2.2.2.2.2.2.2.1 x.2.1.1.2.2.2.2.2.2.2.2.2.2.2.2.1 x.2.2.1 x.2.2.2.1
def yC2 (x:(yix).X):(ycR).X:=((((),()),(0,()),()),((x.2.1.1.1,x.2.1.1.2.1,x.2.1.1.2.2.1,(),x.2.1.1.2.2.2.2.1,x.2.1.1.2.2.2.2.2.1,x.2.1.1.2.2.2.2.2.2.1,x.2.1.1.2.2.2.2.2.2.2.1,x.2.1.1.2.2.2.2.2.2.2.2.1,(),x.2.1.1.2.2.2.2.2.2.2.2.2.2.1,x.2.1.1.2.2.2.2.2.2.2.2.2.2.2.1,x.2.1.1.2.2.2.2.2.2.2.2.2.2.2.2.1,()),()),(x.2.2.1,x.2.2.2.1,()))
def yE6:Code:=(zdI ymB 64 12).getD .skip
theorem ySi:zdI ymB 64 3=some (.block 0 (.loop yE6)):=by kernel_rfl
theorem yVj (x:(ycR).X):zg7 ⟨ysq,39,yEE⟩ 0 yE6 12 ycR yie you x=ydv x:=by kernel_rfl
def yDk (x:(yix).X):Nat:=18446744073709551616
def yuL (x:(yix).X):Option ((yie).X ⊕ (you).X):=zr ydv (yDk x) (yC2 x)
def yDT:Seg:=⟨yix,yie,you,yuL⟩
def yEF:Nat→Option Seg:=fun q=>bif Nat.beq q 3 then some yDT else yEE q
theorem yPS:FrOk Tryz.prog ⟨ysq,39,yEF⟩ ymB:=(yPR).loop (sg:=yDT) ycR yC2 (by decide) ySi ydv yDk (by decide) (fun _=>rfl) (fun x r _ h=>h) yVj
abbrev yhB:List Par:= [.pt tA (.pr .fz (.pr (.pr .fz .fz) (.pr (.ow (.pr (.ow .fz) (.pr (.ow (.pr .fz .fz)) (.pr .fz (.ow .fz))))) (.pr .fz (.pr .fz (.pr .fz (.pr .fz (.pr .fz (.pr (.ow (.pr .fz .fz)) (.pr .fz (.pr .fz .fz)))))))))))]
abbrev ysZ:List OT:= []
def yo1 (a0:dA):Option (ResD ysZ×MutD yhB) :=
 zjw (yuL ((((),()),((),()),()),((a0.1,a0.2.1.1,a0.2.1.2,(),a0.2.2.2.1,a0.2.2.2.2.1,a0.2.2.2.2.2.1,a0.2.2.2.2.2.2.1,a0.2.2.2.2.2.2.2.1,(),a0.2.2.2.2.2.2.2.2.2.1,a0.2.2.2.2.2.2.2.2.2.2.1,a0.2.2.2.2.2.2.2.2.2.2.2,()),()),(a0.2.2.1,a0.2.2.2.2.2.2.2.2.1,()))) (fun y4 =>
 some ((),((y4.2.1.1.1,(y4.2.1.1.2.1,y4.2.1.1.2.2.1),y4.2.2.1,y4.2.1.1.2.2.2.2.1,y4.2.1.1.2.2.2.2.2.1,y4.2.1.1.2.2.2.2.2.2.1,y4.2.1.1.2.2.2.2.2.2.2.1,y4.2.1.1.2.2.2.2.2.2.2.2.1,y4.2.2.2.1,y4.2.1.1.2.2.2.2.2.2.2.2.2.2.1,y4.2.1.1.2.2.2.2.2.2.2.2.2.2.2.1,y4.2.1.1.2.2.2.2.2.2.2.2.2.2.2.2.1),()))) (fun y4 =>
 none)
theorem yY8 (x:InD yhB):zjH ⟨ysq,39,yEF⟩ Tryz.f261.results.toList ymB yhB ysZ x=yo1 x.1:=by kernel_rfl
theorem yUE:ConOk Tryz.prog 261 ⟨yhB,ysZ,fun x=>yo1 x.1⟩:=zkh (yPS) Tryz.func261 (by kernel_rfl) (by kernel_rfl) Tryz.ntmps261.symm (by decide) (fun x r h=>(yY8 x).trans h)
def ydD (a0:dA):dA:=yw a0
theorem yW2 (a0:dA) (hk:zi9 yhB (a0,())):yo1 a0=(fun n=>some ((),(n,()))) (ydD a0):=by
 have hb:a0.2.2.1.length * 80≤2 ^ 47:=hk.1.2.2.1.1
 have h1:yuL (yQe a0)=some (.inl (yDu (yw a0))) :=
  zks (step:=ydv) a0.2.2.1.length (fun i s=>ytG i s) yy (fun _ s=>s.2.2.1.length=a0.2.2.1.length) (fun s=> .inl (yDu s)) (fun i s hi hs=>⟨by
   simp only [ydv,ytG,yt6,hs,zjI (show (i:Int) < a0.2.2.1.length by omega),cond_true,wr (show -9223372036854775808≤(i:Int)+1 by omega) (by omega),Int.natCast_add,Int.natCast_one,Int.toNat_natCast,zkO hi,zkV,yVn,yao,yi6,yy,yy6]
   cases (nth s.2.2.1 i yh).2.2.1<;>cases (opA s).1<;>simp only [cond_true,cond_false,Bool.not_true,Bool.not_false,yao,Int.toNat_natCast],(ysd s i).trans hs⟩) (fun s hs=>by simp only [ydv,ytG,yt6,hs,zkm (Int.le_refl _),cond_false]) a0 rfl _ (by show _ < 18446744073709551616; omega)
 unfold yo1 ydD
 rw [h1]; rfl
def yoA:Con:=⟨yhB,ysZ,fun x=>(fun n=>some ((),(n,()))) (ydD x.1)⟩
theorem yxf:ConOk Tryz.prog 261 yoA:=(yUE).mono (fun x r hk h=>(yW2 x.1 hk).trans h)
end
section
def ymA:Code:=(Tryz.f203.body).getD .skip
def ysp:Env:=zki TT [(140,yAB),(207,yqP),(261,yoA)] []
theorem yPP:FrOk Tryz.prog ⟨ysp,63,fun _=>none⟩ ymA:=zkp yb yc ⟨yRg,yzz,yxf,trivial⟩
def yEC:Nat→Option Seg:=fun _=>none
def yb1:Shape:=⟨[(0,false,[.ptr 1000000000 0]),(2,false,[.int .i64])],[(1000000000,[.int .i64,.int .i64,.int .i64,.at 800000000,.int .i64,.int .i64,.int .i64,.int .i64,.int .i64,.at 800000001,.int .i64,.bool,.bool])],[(800000000,tM,(.pr (.ow .fz) (.pr (.ow (.pr .fz .fz)) (.pr .fz (.ow .fz))))),(800000001,tW,(.pr .fz .fz))]⟩
def ygD:Shape:=⟨[(0,false,[.ptr 1000000000 0]),(2,false,[.ci .i64 0])],[(1000000000,[.int .i64,.int .i64,.int .i64,.at 800000000,.int .i64,.int .i64,.int .i64,.int .i64,.int .i64,.at 800000001,.int .i64,.bool,.bool])],[(800000000,tM,(.pr (.ow .fz) (.pr (.ow (.pr .fz .fz)) (.pr .fz (.ow .fz))))),(800000001,tW,(.pr .fz .fz))]⟩
def ygw:Shape:=⟨[(0,false,[.ptr 1000000000 0])],[(1000000000,[.int .i64,.int .i64,.int .i64,.at 800000000,.int .i64,.int .i64,.int .i64,.int .i64,.int .i64,.at 800000001,.int .i64,.bool,.bool])],[(800000000,tM,(.pr (.ow .fz) (.pr (.ow (.pr .fz .fz)) (.pr .fz (.ow .fz))))),(800000001,tW,(.pr .fz .fz))]⟩
def ylU:Shape:=⟨[],[],[]⟩
abbrev yrF (v0:Int) (v1:dA):(yb1).X:=((((),()),(v0,()),()),((v1.1,v1.2.1.1,v1.2.1.2,(),v1.2.2.2.1,v1.2.2.2.2.1,v1.2.2.2.2.2.1,v1.2.2.2.2.2.2.1,v1.2.2.2.2.2.2.2.1,(),v1.2.2.2.2.2.2.2.2.2.1,v1.2.2.2.2.2.2.2.2.2.2.1,v1.2.2.2.2.2.2.2.2.2.2.2,()),()),(v1.2.2.1,v1.2.2.2.2.2.2.2.2.1,()))
abbrev yNk (v0:dA):(ygD).X:=((((),()),((),()),()),((v0.1,v0.2.1.1,v0.2.1.2,(),v0.2.2.2.1,v0.2.2.2.2.1,v0.2.2.2.2.2.1,v0.2.2.2.2.2.2.1,v0.2.2.2.2.2.2.2.1,(),v0.2.2.2.2.2.2.2.2.2.1,v0.2.2.2.2.2.2.2.2.2.2.1,v0.2.2.2.2.2.2.2.2.2.2.2,()),()),(v0.2.2.1,v0.2.2.2.2.2.2.2.2.1,()))
abbrev yBb (v0:dA):(ygw).X:=((((),()),()),((v0.1,v0.2.1.1,v0.2.1.2,(),v0.2.2.2.1,v0.2.2.2.2.1,v0.2.2.2.2.2.1,v0.2.2.2.2.2.2.1,v0.2.2.2.2.2.2.2.1,(),v0.2.2.2.2.2.2.2.2.2.1,v0.2.2.2.2.2.2.2.2.2.2.1,v0.2.2.2.2.2.2.2.2.2.2.2,()),()),(v0.2.2.1,v0.2.2.2.2.2.2.2.2.1,()))
def yrZ (v0 v1 v2 v3 v4 v5 v6 v7 v8 v9:Int) (v10 v11:Bool) (v12:List dM) (v13:List dW):Option ((yb1).X ⊕ ((ygw).X ⊕ (ylU).X)) :=
 bif (ltb v0 (v12.length:Int)) then
 let r3:=yaD (v1,v8,v0,v2,v3,v7,v4,v5)
 bnd (ygT (v1,(v2,v3),v12,v4,v5,v6,v7,v8,v13,v9,v10,v11) v0 (v8.tmod 2) r3) fun r4 =>
 some (.inl ((((),()),((IntKind.i64.wrap (v0+1)),()),()),((r4.2.1.1,r4.2.1.2.1.1,r4.2.1.2.1.2,(),r4.2.1.2.2.2.1,r4.2.1.2.2.2.2.1,r4.2.1.2.2.2.2.2.1,r4.2.1.2.2.2.2.2.2.1,r4.2.1.2.2.2.2.2.2.2.1,(),r4.2.1.2.2.2.2.2.2.2.2.2.1,r4.2.1.2.2.2.2.2.2.2.2.2.2.1,r4.2.1.2.2.2.2.2.2.2.2.2.2.2,()),()),(r4.2.1.2.2.1,r4.2.1.2.2.2.2.2.2.2.2.1,())))
 else
 some (.inr (.inl ((((),()),()),((v1,v2,v3,(),v4,v5,v6,v7,v8,(),v9,v10,v11,()),()),(v12,v13,()))))
def ycz (x:(yb1).X):=yrZ x.1.2.1.1 x.2.1.1.1 x.2.1.1.2.1 x.2.1.1.2.2.1 x.2.1.1.2.2.2.2.1 x.2.1.1.2.2.2.2.2.1 x.2.1.1.2.2.2.2.2.2.1 x.2.1.1.2.2.2.2.2.2.2.1 x.2.1.1.2.2.2.2.2.2.2.2.1 x.2.1.1.2.2.2.2.2.2.2.2.2.2.1 x.2.1.1.2.2.2.2.2.2.2.2.2.2.2.1 x.2.1.1.2.2.2.2.2.2.2.2.2.2.2.2.1 x.2.2.1 x.2.2.2.1
def yAT (x:(ygD).X):(yb1).X:=((((),()),(0,()),()),((x.2.1.1.1,x.2.1.1.2.1,x.2.1.1.2.2.1,(),x.2.1.1.2.2.2.2.1,x.2.1.1.2.2.2.2.2.1,x.2.1.1.2.2.2.2.2.2.1,x.2.1.1.2.2.2.2.2.2.2.1,x.2.1.1.2.2.2.2.2.2.2.2.1,(),x.2.1.1.2.2.2.2.2.2.2.2.2.2.1,x.2.1.1.2.2.2.2.2.2.2.2.2.2.2.1,x.2.1.1.2.2.2.2.2.2.2.2.2.2.2.2.1,()),()),(x.2.2.1,x.2.2.2.1,()))
def yCt:Code:=(zdI ymA 64 52).getD .skip
theorem yOQ:zdI ymA 64 13=some (.block 0 (.loop yCt)):=by kernel_rfl
theorem yRC (x:(yb1).X):zg7 ⟨ysp,63,yEC⟩ 0 yCt 52 yb1 ygw ylU x=ycz x:=by kernel_rfl
def yA8 (x:(ygD).X):Nat:=18446744073709551616
def ytr (x:(ygD).X):Option ((ygw).X ⊕ (ylU).X):=zr ycz (yA8 x) (yAT x)
def yBr:Seg:=⟨ygD,ygw,ylU,ytr⟩
def yED:Nat→Option Seg:=fun q=>bif Nat.beq q 13 then some yBr else yEC q
theorem yPQ:FrOk Tryz.prog ⟨ysp,63,yED⟩ ymA:=(yPP).loop (sg:=yBr) yb1 yAT (by decide) yOQ ycz yA8 (by decide) (fun _=>rfl) (fun x r _ h=>h) yRC
abbrev yhA:List Par:= [.pt tA (.pr .fz (.pr (.pr .fz .fz) (.pr (.ow (.pr (.ow .fz) (.pr (.ow (.pr .fz .fz)) (.pr .fz (.ow .fz))))) (.pr .fz (.pr .fz (.pr .fz (.pr .fz (.pr .fz (.pr (.ow (.pr .fz .fz)) (.pr .fz (.pr .fz .fz)))))))))))]
abbrev ysY:List OT:= []
def yo0 (a0:dA):Option (ResD ysY×MutD yhA) :=
 zjw (ytr ((((),()),((),()),()),((a0.1,a0.2.1.1,a0.2.1.2,(),a0.2.2.2.1,a0.2.2.2.2.1,a0.2.2.2.2.2.1,a0.2.2.2.2.2.2.1,(IntKind.i64.wrap (a0.2.2.2.2.2.2.2.1+1)),(),a0.2.2.2.2.2.2.2.2.2.1,a0.2.2.2.2.2.2.2.2.2.2.1,a0.2.2.2.2.2.2.2.2.2.2.2,()),()),(a0.2.2.1,a0.2.2.2.2.2.2.2.2.1,()))) (fun y4 =>
 let r6:=ydD (y4.2.1.1.1,(y4.2.1.1.2.1,y4.2.1.1.2.2.1),y4.2.2.1,y4.2.1.1.2.2.2.2.1,y4.2.1.1.2.2.2.2.2.1,y4.2.1.1.2.2.2.2.2.2.1,y4.2.1.1.2.2.2.2.2.2.2.1,y4.2.1.1.2.2.2.2.2.2.2.2.1,y4.2.2.2.1,y4.2.1.1.2.2.2.2.2.2.2.2.2.2.1,y4.2.1.1.2.2.2.2.2.2.2.2.2.2.2.1,y4.2.1.1.2.2.2.2.2.2.2.2.2.2.2.2.1)
 some ((),(r6,()))) (fun y4 =>
 none)
theorem yY7 (x:InD yhA):zjH ⟨ysp,63,yED⟩ Tryz.f203.results.toList ymA yhA ysY x=yo0 x.1:=by kernel_rfl
theorem yUD:ConOk Tryz.prog 203 ⟨yhA,ysY,fun x=>yo0 x.1⟩:=zkh (yPQ) Tryz.func203 (by kernel_rfl) (by kernel_rfl) Tryz.ntmps203.symm (by decide) (fun x r h=>(yY7 x).trans h)
def yhG (a0:dA):dA:=yfX a0
theorem yOo (a:dA) (i:Nat):(yaF a i).2.2.1.length=a.2.2.1.length:=yxg _ _ _ _
theorem yW1 (a0:dA) (hk:zi9 yhA (a0,())):yo0 a0=(fun n=>some ((),(n,()))) (yhG a0):=by
 have hb:a0.2.2.1.length * 80≤2 ^ 47:=hk.1.2.2.1.1
 have h1:ytr (yNk (ylX a0))=some (.inl (yBb ((List.range a0.2.2.1.length).foldl yaF (ylX a0)))) :=
  zks (step:=ycz) a0.2.2.1.length (fun i s=>yrF i s) yaF (fun _ s=>s.2.2.1.length=a0.2.2.1.length) (fun s=> .inl (yBb s)) (fun i s hi hs=>⟨by
   simp only [ycz,yrF,yrZ,hs,zjI (show (i:Int) < a0.2.2.1.length by omega),cond_true,wr (show -9223372036854775808≤(i:Int)+1 by omega) (by omega),Int.natCast_add,Int.natCast_one,Int.toNat_natCast,zkV]
   rw [ytb s i (s.2.2.2.2.2.2.2.1.tmod 2) (yaD (s.1,s.2.2.2.2.2.2.2.1,(i:Int),s.2.1.1,s.2.1.2,s.2.2.2.2.2.2.1,s.2.2.2.1,s.2.2.2.2.1)) (zkO (by rw [hs]; exact hi))]
   rfl,(yOo s i).trans hs⟩) (fun s hs=>by simp only [ycz,yrF,yrZ,hs,zkm (Int.le_refl _),cond_false]) (ylX a0) rfl _ (by show _ < 18446744073709551616; omega)
 unfold yo0 yhG yfX
 exact (congrArg (fun z=>zjw z _ _) h1).trans rfl
def yFw:Con:=⟨yhA,ysY,fun x=>(fun n=>some ((),(n,()))) (yhG x.1)⟩
theorem yX0:ConOk Tryz.prog 203 yFw:=(yUD).mono (fun x r hk h=>(yW1 x.1 hk).trans h)
end
section
def yhI:Code:=(Tryz.f101.body).getD .skip
def ynN:Env:=zki TT [(107,yiW),(128,yCy),(201,yAt),(202,yjP)] []
theorem yKB:FrOk Tryz.prog ⟨ynN,37,fun _=>none⟩ yhI:=zkp yb yc ⟨yrH,yUK,yQ8,ytI,trivial⟩
def yzM:Nat→Option Seg:=fun _=>none
def yaN:Shape:=⟨[(0,false,[.ptr 1000000000 0]),(15,false,[.int .i64]),(16,false,[.int .i64])],[(1000000000,[.int .i64,.int .i64,.int .i64,.at 800000000,.int .i64,.int .i64,.int .i64,.int .i64,.int .i64,.at 800000001,.int .i64,.bool,.bool])],[(800000000,tM,(.pr (.ow (.ow .fz)) (.pr (.ow (.pr .fz (.ow .fz))) (.pr .fz (.ow .fz))))),(800000001,tW,(.pr .fz (.ow .fz)))]⟩
def yep:Shape:=⟨[(0,false,[.ptr 1000000000 0]),(15,false,[.int .i64]),(16,false,[.ci .i64 0])],[(1000000000,[.int .i64,.int .i64,.int .i64,.at 800000000,.int .i64,.int .i64,.int .i64,.int .i64,.int .i64,.at 800000001,.int .i64,.bool,.bool])],[(800000000,tM,(.pr (.ow (.ow .fz)) (.pr (.ow (.pr .fz (.ow .fz))) (.pr .fz (.ow .fz))))),(800000001,tW,(.pr .fz (.ow .fz)))]⟩
def yek:Shape:=⟨[(0,false,[.ptr 1000000000 0])],[(1000000000,[.int .i64,.int .i64,.int .i64,.at 800000000,.int .i64,.int .i64,.int .i64,.int .i64,.int .i64,.at 800000001,.int .i64,.bool,.bool])],[(800000000,tM,(.pr (.ow (.ow .fz)) (.pr (.ow (.pr .fz (.ow .fz))) (.pr .fz (.ow .fz))))),(800000001,tW,(.pr .fz (.ow .fz)))]⟩
def yeu:Shape:=⟨[(2,false,[.bool])],[(1000000000,[.int .i64,.int .i64,.int .i64,.at 800000000,.int .i64,.int .i64,.int .i64,.int .i64,.int .i64,.at 800000001,.int .i64,.bool,.bool])],[(800000000,tM,(.pr (.ow (.ow .fz)) (.pr (.ow (.pr .fz (.ow .fz))) (.pr .fz (.ow .fz))))),(800000001,tW,(.pr .fz (.ow .fz)))]⟩
abbrev ynn (v0 v1:Int) (v2:dA):(yaN).X:=((((),()),(v0,()),(v1,()),()),((v2.1,v2.2.1.1,v2.2.1.2,(),v2.2.2.2.1,v2.2.2.2.2.1,v2.2.2.2.2.2.1,v2.2.2.2.2.2.2.1,v2.2.2.2.2.2.2.2.1,(),v2.2.2.2.2.2.2.2.2.2.1,v2.2.2.2.2.2.2.2.2.2.2.1,v2.2.2.2.2.2.2.2.2.2.2.2,()),()),(v2.2.2.1,v2.2.2.2.2.2.2.2.2.1,()))
abbrev yI7 (v0:Int) (v1:dA):(yep).X:=((((),()),(v0,()),((),()),()),((v1.1,v1.2.1.1,v1.2.1.2,(),v1.2.2.2.1,v1.2.2.2.2.1,v1.2.2.2.2.2.1,v1.2.2.2.2.2.2.1,v1.2.2.2.2.2.2.2.1,(),v1.2.2.2.2.2.2.2.2.2.1,v1.2.2.2.2.2.2.2.2.2.2.1,v1.2.2.2.2.2.2.2.2.2.2.2,()),()),(v1.2.2.1,v1.2.2.2.2.2.2.2.2.1,()))
abbrev ynr (v0:dA):(yek).X:=((((),()),()),((v0.1,v0.2.1.1,v0.2.1.2,(),v0.2.2.2.1,v0.2.2.2.2.1,v0.2.2.2.2.2.1,v0.2.2.2.2.2.2.1,v0.2.2.2.2.2.2.2.1,(),v0.2.2.2.2.2.2.2.2.2.1,v0.2.2.2.2.2.2.2.2.2.2.1,v0.2.2.2.2.2.2.2.2.2.2.2,()),()),(v0.2.2.1,v0.2.2.2.2.2.2.2.2.1,()))
abbrev ynt (v0:Bool) (v1:dA):(yeu).X:=(((v0,()),()),((v1.1,v1.2.1.1,v1.2.1.2,(),v1.2.2.2.1,v1.2.2.2.2.1,v1.2.2.2.2.2.1,v1.2.2.2.2.2.2.1,v1.2.2.2.2.2.2.2.1,(),v1.2.2.2.2.2.2.2.2.2.1,v1.2.2.2.2.2.2.2.2.2.2.1,v1.2.2.2.2.2.2.2.2.2.2.2,()),()),(v1.2.2.1,v1.2.2.2.2.2.2.2.2.1,()))
def ynz (v0 v1 v2 v3 v4 v5 v6 v7 v8 v9 v10:Int) (v11 v12:Bool) (v13:List dM) (v14:List dW):Option ((yaN).X ⊕ ((yek).X ⊕ (yeu).X)) :=
 bif (ltb v1 v0) then
 let r4:=yqT (v2,(v3,v4),v13,v5,v6,v7,v8,v9,v14,v10,v11,v12) v1
 let r5:=yi4 r4
 bnd (yd9 (v2,(v3,v4),v13,v5,v6,v7,v8,v9,v14,v10,v11,v12) v1 (v9.tmod 2) r5) fun r6 =>
 bif (!r6.1.1) then
 some (.inr (.inr (((false,()),()),((r6.2.1.1,r6.2.1.2.1.1,r6.2.1.2.1.2,(),r6.2.1.2.2.2.1,r6.2.1.2.2.2.2.1,r6.2.1.2.2.2.2.2.1,r6.2.1.2.2.2.2.2.2.1,r6.2.1.2.2.2.2.2.2.2.1,(),r6.2.1.2.2.2.2.2.2.2.2.2.1,r6.2.1.2.2.2.2.2.2.2.2.2.2.1,r6.2.1.2.2.2.2.2.2.2.2.2.2.2,()),()),(r6.2.1.2.2.1,r6.2.1.2.2.2.2.2.2.2.2.1,()))))
 else
 some (.inl ((((),()),(v0,()),((IntKind.i64.wrap (v1+1)),()),()),((r6.2.1.1,r6.2.1.2.1.1,r6.2.1.2.1.2,(),r6.2.1.2.2.2.1,r6.2.1.2.2.2.2.1,r6.2.1.2.2.2.2.2.1,r6.2.1.2.2.2.2.2.2.1,r6.2.1.2.2.2.2.2.2.2.1,(),r6.2.1.2.2.2.2.2.2.2.2.2.1,r6.2.1.2.2.2.2.2.2.2.2.2.2.1,r6.2.1.2.2.2.2.2.2.2.2.2.2.2,()),()),(r6.2.1.2.2.1,r6.2.1.2.2.2.2.2.2.2.2.1,())))
 else
 some (.inr (.inl ((((),()),()),((v2,v3,v4,(),v5,v6,v7,v8,v9,(),v10,v11,v12,()),()),(v13,v14,()))))
def ya0 (x:(yaN).X):=ynz x.1.2.1.1 x.1.2.2.1.1 x.2.1.1.1 x.2.1.1.2.1 x.2.1.1.2.2.1 x.2.1.1.2.2.2.2.1 x.2.1.1.2.2.2.2.2.1 x.2.1.1.2.2.2.2.2.2.1 x.2.1.1.2.2.2.2.2.2.2.1 x.2.1.1.2.2.2.2.2.2.2.2.1 x.2.1.1.2.2.2.2.2.2.2.2.2.2.1 x.2.1.1.2.2.2.2.2.2.2.2.2.2.2.1 x.2.1.1.2.2.2.2.2.2.2.2.2.2.2.2.1 x.2.2.1 x.2.2.2.1
def ywq (x:(yep).X):(yaN).X:=((((),()),(x.1.2.1.1,()),(0,()),()),((x.2.1.1.1,x.2.1.1.2.1,x.2.1.1.2.2.1,(),x.2.1.1.2.2.2.2.1,x.2.1.1.2.2.2.2.2.1,x.2.1.1.2.2.2.2.2.2.1,x.2.1.1.2.2.2.2.2.2.2.1,x.2.1.1.2.2.2.2.2.2.2.2.1,(),x.2.1.1.2.2.2.2.2.2.2.2.2.2.1,x.2.1.1.2.2.2.2.2.2.2.2.2.2.2.1,x.2.1.1.2.2.2.2.2.2.2.2.2.2.2.2.1,()),()),(x.2.2.1,x.2.2.2.1,()))
def yya:Code:=(zdI yhI 64 116).getD .skip
theorem yKe:zdI yhI 64 29=some (.block 0 (.loop yya)):=by kernel_rfl
theorem yLP (x:(yaN).X):zg7 ⟨ynN,37,yzM⟩ 0 yya 116 yaN yek yeu x=ya0 x:=by kernel_rfl
def ywB (x:(yep).X):Nat:=18446744073709551616
def ypg (x:(yep).X):Option ((yek).X ⊕ (yeu).X):=zr ya0 (ywB x) (ywq x)
def ywO:Seg:=⟨yep,yek,yeu,ypg⟩
def yzN:Nat→Option Seg:=fun q=>bif Nat.beq q 29 then some ywO else yzM q
theorem yKC:FrOk Tryz.prog ⟨ynN,37,yzN⟩ yhI:=(yKB).loop (sg:=ywO) yaN ywq (by decide) yKe ya0 ywB (by decide) (fun _=>rfl) (fun x r _ h=>h) yLP
abbrev ycD:List Par:= [.pt tA (.pr .fz (.pr (.pr .fz .fz) (.pr (.ow (.pr (.ow (.ow .fz)) (.pr (.ow (.pr .fz (.ow .fz))) (.pr .fz (.ow .fz))))) (.pr .fz (.pr .fz (.pr .fz (.pr .fz (.pr .fz (.pr (.ow (.pr .fz (.ow .fz))) (.pr .fz (.pr .fz .fz)))))))))))]
abbrev yiz:List OT:= [⟨false,tB,.fz⟩]
def yjT (a0:dA):Option (ResD yiz×MutD ycD) :=
 zjw (ypg ((((),()),((a0.2.2.1.length:Int),()),((),()),()),((a0.1,a0.2.1.1,a0.2.1.2,(),a0.2.2.2.1,a0.2.2.2.2.1,a0.2.2.2.2.2.1,a0.2.2.2.2.2.2.1,(IntKind.i64.wrap (a0.2.2.2.2.2.2.2.1+1)),(),a0.2.2.2.2.2.2.2.2.2.1,a0.2.2.2.2.2.2.2.2.2.2.1,a0.2.2.2.2.2.2.2.2.2.2.2,()),()),(a0.2.2.1,a0.2.2.2.2.2.2.2.2.1,()))) (fun y6 =>
 bnd (ye5 (y6.2.1.1.1,(y6.2.1.1.2.1,y6.2.1.1.2.2.1),y6.2.2.1,y6.2.1.1.2.2.2.2.1,y6.2.1.1.2.2.2.2.2.1,y6.2.1.1.2.2.2.2.2.2.1,y6.2.1.1.2.2.2.2.2.2.2.1,y6.2.1.1.2.2.2.2.2.2.2.2.1,y6.2.2.2.1,y6.2.1.1.2.2.2.2.2.2.2.2.2.2.1,y6.2.1.1.2.2.2.2.2.2.2.2.2.2.2.1,y6.2.1.1.2.2.2.2.2.2.2.2.2.2.2.2.1)) fun r8 =>
 some ((r8.1.1,()),(r8.2.1,()))) (fun y6 =>
 some ((y6.1.1.1,()),((y6.2.1.1.1,(y6.2.1.1.2.1,y6.2.1.1.2.2.1),y6.2.2.1,y6.2.1.1.2.2.2.2.1,y6.2.1.1.2.2.2.2.2.1,y6.2.1.1.2.2.2.2.2.2.1,y6.2.1.1.2.2.2.2.2.2.2.1,y6.2.1.1.2.2.2.2.2.2.2.2.1,y6.2.2.2.1,y6.2.1.1.2.2.2.2.2.2.2.2.2.2.1,y6.2.1.1.2.2.2.2.2.2.2.2.2.2.2.1,y6.2.1.1.2.2.2.2.2.2.2.2.2.2.2.2.1),())))
theorem ySp (x:InD ycD):zjH ⟨ynN,37,yzN⟩ Tryz.f101.results.toList yhI ycD yiz x=yjT x.1:=by kernel_rfl
theorem yNu:ConOk Tryz.prog 101 ⟨ycD,yiz,fun x=>yjT x.1⟩:=zkh (yKC) Tryz.func101 (by kernel_rfl) (by kernel_rfl) Tryz.ntmps101.symm (by decide) (fun x r h=>(ySp x).trans h)
def yoC (a0:dA):Bool×dA:=(!(yd (yfX a0)),yfX a0)
def yjb (a0:dA):Bool:= !(yd a0)
theorem y03 {a:dA} (i:Nat) (h:yd a=true):yaF a i=a:=yRn h _ _ _
theorem yQn (a0:dA) (hk:zi9 ycD (a0,())) (hq:yjb a0=true):yjT a0=(fun n=>some ((n.1,()),(n.2,()))) (yoC a0):=by
 have hb:a0.2.2.1.length * 80≤2 ^ 47:=hk.1.2.2.1.1
 have hd0:yd a0=false:=by simpa [yjb] using hq
 have h1:ypg (yI7 a0.2.2.1.length (ylX a0))=some (bif yd ((List.range a0.2.2.1.length).foldl yaF (ylX a0)) then .inr (ynt false ((List.range a0.2.2.1.length).foldl yaF (ylX a0))) else .inl (ynr ((List.range a0.2.2.1.length).foldl yaF (ylX a0)))):=by
  have:=zkr (step:=ya0) a0.2.2.1.length (fun i s=>ynn a0.2.2.1.length i s) (fun i s=>bif yd (yaF s i) then (.inr (yaF s i):dA ⊕ dA) else .inl (yaF s i)) (fun _ s=>s.2.2.1.length=a0.2.2.1.length∧yd s=false) id
   (fun b=>bif yd b then .inr (ynt false b) else .inl (ynr b)) (fun i s hi hs=>by
    constructor
    ·simp only [ya0,ynn,ynz,zjI (show (i:Int) < a0.2.2.1.length by omega),cond_true,wr (show -9223372036854775808≤(i:Int)+1 by omega) (by omega),Int.natCast_add,Int.natCast_one,Int.toNat_natCast,zkV,y1u,yqT]
     rw [yrI s i (s.2.2.2.2.2.2.2.1.tmod 2) (yaD (s.1,s.2.2.2.2.2.2.2.1,(i:Int),s.2.1.1,s.2.1.2,s.2.2.2.2.2.2.1,s.2.2.2.1,s.2.2.2.2.1)) (by unfold yb4; rw [zkO (by rw [hs.1]; exact hi),hs.2]; rfl)]
     simp only [zky,yb2]
     rw [show yeF s i (s.2.2.2.2.2.2.2.1.tmod 2) (yaD (s.1,s.2.2.2.2.2.2.2.1,(i:Int),s.2.1.1,s.2.1.2,s.2.2.2.2.2.2.1,s.2.2.2.1,s.2.2.2.2.1))=yaF s i from rfl]
     cases hd:yd (yaF s i)
     ·rfl
     ·simp only [hd,Bool.not_true,Bool.not_false,cond_true,ynt]
    ·intro s' h
     cases hd:yd (yaF s i)
     ·rw [hd]at h
      cases h
      exact ⟨(yOo s i).trans hs.1,hd⟩
     ·rw [hd]at h; cases h) (fun s hs=>by simp only [ya0,ynn,ynz,hs.2,zkm (Int.le_refl _),cond_false,id,ynr]) (ylX a0) ⟨rfl,hd0⟩ 18446744073709551616 (by omega)
  rw [yDm (fun a i h=>y03 i h),← List.range_eq_range'] at this
  exact this
 unfold yjT yoC yfX
 refine (congrArg (fun z=>zjw z _ _) h1).trans ?_
 cases hd:yd ((List.range a0.2.2.1.length).foldl yaF (ylX a0))
 ·simp only [cond_false,zkJ,zkV]
  rw [ytJ _ (by unfold ye6; rw [hd]; rfl)]; rfl
 ·rw [yYq hd]
  simp only [cond_true,zkK,zkV]
  rw [hd]; rfl
def yja (a0:dA):Option (ResD yiz×MutD ycD):=bif yjb a0 then (fun n=>some ((n.1,()),(n.2,()))) (yoC a0) else none
theorem yRk (a0:dA) (h:yjb a0=true):yja a0=(fun n=>some ((n.1,()),(n.2,()))) (yoC a0):=by unfold yja; rw [h]; rfl
def yAr:Con:=⟨ycD,yiz,fun x=>yja x.1⟩
theorem yQ6:ConOk Tryz.prog 101 yAr:=(yNu).mono (fun x r hk h=>zkW h (fun hq=>yQn x.1 hk hq))
end
section
def yBH:Code:=(Tryz.f111.body).getD .skip
def yCa:Env:=zki TT [(101,yAr),(202,yjP)] []
theorem yIU:FrOk Tryz.prog ⟨yCa,15,fun _=>none⟩ yBH:=zkp yb yc ⟨yQ6,ytI,trivial⟩
def yJP:Nat→Option Seg:=fun _=>none
abbrev ybS:List Par:= [.pt tA (.pr .fz (.pr (.pr .fz .fz) (.pr (.ow (.pr (.ow (.ow .fz)) (.pr (.ow (.pr .fz (.ow .fz))) (.pr .fz (.ow .fz))))) (.pr .fz (.pr .fz (.pr .fz (.pr .fz (.pr .fz (.pr (.ow (.pr .fz (.ow .fz))) (.pr .fz (.pr .fz .fz)))))))))))]
abbrev ygE:List OT:= [⟨false,tB,.fz⟩]
def yjc (a0:dA):Option (ResD ygE×MutD ybS) :=
 bnd (ye5 a0) fun r1 =>
 bif (!r1.1.1) then
 some ((false,()),(r1.2.1,()))
 else
 bnd (yja (r1.2.1.1,r1.2.1.2.1,r1.2.1.2.2.1,r1.2.1.2.2.2.1,r1.2.1.2.2.2.2.1,r1.2.1.2.2.2.2.2.1,r1.2.1.2.2.2.2.2.1,r1.2.1.2.2.2.2.2.2.2)) fun r2 =>
 some ((r2.1.1,()),(r2.2.1,()))
theorem yOS (x:InD ybS):zjH ⟨yCa,15,yJP⟩ Tryz.f111.results.toList yBH ybS ygE x=yjc x.1:=by kernel_rfl
theorem yLz:ConOk Tryz.prog 111 ⟨ybS,ygE,fun x=>yjc x.1⟩:=zkh (yIU) Tryz.func111 (by kernel_rfl) (by kernel_rfl) Tryz.ntmps111.symm (by decide) (fun x r h=>(yOS x).trans h)
def ygM (a0:dA):Bool×dA:=(!(yd (yu a0)),yu a0)
def yl4 (a0:dA):Bool:= !(yd a0)
theorem yNn (a0:dA) (hk:zi9 ybS (a0,())) (hq:yl4 a0=true):yjc a0=(fun n=>some ((n.1,()),(n.2,()))) (ygM a0):=by
 unfold yjc ygM yu
 rw [ytJ a0 hq]
 simp only [zky,yi2]
 cases hd:yd (yw a0)
 ·have hm:yja (ynf (yw a0))=some ((!(yd (yfX (ynf (yw a0)))),()),(yfX (ynf (yw a0)),())):=yRk (ynf (yw a0)) (by unfold yjb; rw [show yd (ynf (yw a0))=yd (yw a0) from rfl,hd]; rfl)
  exact (congrArg (fun z=>bnd z _) hm).trans rfl
 ·simp only [Bool.not_true,Bool.not_false,cond_true]
  rw [hd]; rfl
def yl1 (a0:dA):Option (ResD ygE×MutD ybS):=bif yl4 a0 then (fun n=>some ((n.1,()),(n.2,()))) (ygM a0) else none
theorem yNU (a0:dA) (h:yl4 a0=true):yl1 a0=(fun n=>some ((n.1,()),(n.2,()))) (ygM a0):=by unfold yl1; rw [h]; rfl
def yyl:Con:=⟨ybS,ygE,fun x=>yl1 x.1⟩
theorem yNP:ConOk Tryz.prog 111 yyl:=(yLz).mono (fun x r hk h=>zkW h (fun hq=>yNn x.1 hk hq))
end
section
def yIa:Code:=(Tryz.f160.body).getD .skip
def yIz:Env:=zki TT [] []
theorem yPy:FrOk Tryz.prog ⟨yIz,8,fun _=>none⟩ yIa:=zkp yb yc trivial
def yRZ:Nat→Option Seg:=fun _=>none
abbrev ymO:List Par:= [.rd tI]
abbrev ysR:List OT:= [⟨false,tI,.fz⟩]
def yv6 (a0:Int):Option (ResD ysR×MutD ymO) :=
 bif (ltb a0 0) then
 some (((-1),()),())
 else
 some (((IntKind.i64.wrap (2+(a0.tmod 4))),()),())
theorem yYX (x:InD ymO):zjH ⟨yIz,8,yRZ⟩ Tryz.f160.results.toList yIa ymO ysR x=yv6 x.1:=by kernel_rfl
theorem yUt:ConOk Tryz.prog 160 ⟨ymO,ysR,fun x=>yv6 x.1⟩:=zkh (yPy) Tryz.func160 (by kernel_rfl) (by kernel_rfl) Tryz.ntmps160.symm (by decide) (fun x r h=>(yYX x).trans h)
def ydC (a0:Int):Int :=
 bif (ltb a0 0) then
 (-1)
 else
 (IntKind.i64.wrap (2+(a0.tmod 4)))
def yFn:Con:=⟨ymO,ysR,fun x=>(fun n=>some ((n,()),())) (ydC x.1)⟩
theorem yWR (a0:Int):yv6 a0=(fun n=>some ((n,()),())) (ydC a0):=zkS (p:=fun (n:Int)=>((n,()),())) (zkx (p:=fun (n:Int)=>((n,()),())) rfl rfl)
theorem yXR:ConOk Tryz.prog 160 yFn:=(yUt).mono (fun x r _ h=>(yWR x.1).trans h)
end
section
def yHX:Code:=(Tryz.f157.body).getD .skip
def yIm:Env:=zki TT [] []
theorem yO5:FrOk Tryz.prog ⟨yIm,8,fun _=>none⟩ yHX:=zkp yb yc trivial
def yRM:Nat→Option Seg:=fun _=>none
abbrev ymE:List Par:= [.rd tI]
abbrev ysw:List OT:= [⟨false,tI,.fz⟩]
def yvW (a0:Int):Option (ResD ysw×MutD ymE) :=
 bif (ltb a0 0) then
 some (((-1),()),())
 else
 some (((IntKind.i64.wrap (2+(a0.tmod 4))),()),())
theorem yYC (x:InD ymE):zjH ⟨yIm,8,yRM⟩ Tryz.f157.results.toList yHX ymE ysw x=yvW x.1:=by kernel_rfl
theorem yT8:ConOk Tryz.prog 157 ⟨ymE,ysw,fun x=>yvW x.1⟩:=zkh (yO5) Tryz.func157 (by kernel_rfl) (by kernel_rfl) Tryz.ntmps157.symm (by decide) (fun x r h=>(yYC x).trans h)
def ys2 (a0:Int):Int :=
 bif (ltb a0 0) then
 (-1)
 else
 (IntKind.i64.wrap (2+(a0.tmod 4)))
def yFc:Con:=⟨ymE,ysw,fun x=>(fun n=>some ((n,()),())) (ys2 x.1)⟩
theorem yWw (a0:Int):yvW a0=(fun n=>some ((n,()),())) (ys2 a0):=zkS (p:=fun (n:Int)=>((n,()),())) (zkx (p:=fun (n:Int)=>((n,()),())) rfl rfl)
theorem yXG:ConOk Tryz.prog 157 yFc:=(yT8).mono (fun x r _ h=>(yWw x.1).trans h)
theorem y00 (q:Int):ys2 q=ydC q:=rfl
end
end
end Go.Tf
