/- Functions of the program, and what they come to. -/
import Derived.Test.YtgmadfpnljibhaaGreatBlocksBentF31
namespace Go.Tf
noncomputable section
open Go.Proofs
set_option synthInstance.maxHeartbeats 400000
set_option synthInstance.maxSize 10000
set_option linter.unusedVariables false
set_option linter.unusedSimpArgs false
set_option maxRecDepth 100000
section
def yGb:Code:=(Tryz.f78.body).getD .skip
def yGR:Env:=zj3 TT [(175,yxF),(176,ytl),(177,yti),(178,yvj)] []
theorem yOy:FrOk Tryz.prog ⟨yGR,33,fun _=>none⟩ yGb:=zj7 yb yc ⟨yJ1,yFt,yFq,yHL,trivial⟩
def yPX:Nat→Option Seg:=fun _=>none
abbrev yf0:List Par:= [.rd tA,.rd tI]
abbrev ypT:List OT:= [⟨false,tI,.fz⟩,⟨false,tI,.fz⟩]
def ylu (a0:dA) (a1:Int):Option (ResD ypT×MutD yf0) :=
 let r1:=yi9 a0 a1
 bif (r1 !=0) then
 some ((0,r1,()),())
 else
 let r2:=ydX a0.2.1 a1
 bnd (ykE a0 r2) fun r3 =>
 bif (!r3.1.2.1) then
 some ((0,5,()),())
 else
 let r4:=ye6 a0.2.1 a1
 bif (inb r4 r3.1.1.length) then
 some (((nth r3.1.1 r4 0),0,()),())
 else none
theorem yW7 (x:InD yf0):zjx ⟨yGR,33,yPX⟩ Tryz.f78.results.toList yGb yf0 ypT x=ylu x.1 x.2.1:=by kernel_rfl
theorem yRL:ConOk Tryz.prog 78 ⟨yf0,ypT,fun x=>ylu x.1 x.2.1⟩:=zj2 (yOy) Tryz.func78 (by kernel_rfl) (by kernel_rfl) Tryz.ntmps78.symm (by decide) (fun x r h=>(yW7 x).trans h)
def ykA (a0:dA) (a1:Int):Int×Int:=yKp a0 a1
theorem yUI (a0:dA) (a1:Int) (hk:zi2 yf0 (a0,a1,())):ylu a0 a1=(fun n=>some ((n.1,n.2,()),())) (ykA a0 a1):=by
 unfold ylu ykA yKp ydX ye6
 simp only [yPC]
 cases hc:(yau a0 a1 !=0)
 ·obtain ⟨h1,h2,_⟩:=yAw (bne_eq_false_iff_eq.1 hc)
  have hs:=yt3 h2
  rw [yFu a0 (yB a0.2.1 a1) hs]
  simp only [zkd,cond_false,ygc]
  cases hn:(yI a0 (yB a0.2.1 a1)).2
  ·rfl
  ·have hl:=yoT h1 hs hn
   obtain ⟨_,_,h5⟩:=ykn h2
   have h6:yaq a0.2.1 a1=a1.tmod (a0.2.1.1 - 1):=by unfold yaq; rw [h2]; rfl
   rw [zjD.2 (show 0≤yaq a0.2.1 a1∧yaq a0.2.1 a1 < (yI a0 (yB a0.2.1 a1)).1.length by omega)]; rfl
 ·rfl
def yCE:Con:=⟨yf0,ypT,fun x=>(fun n=>some ((n.1,n.2,()),())) (ykA x.1 x.2.1)⟩
theorem yVu:ConOk Tryz.prog 78 yCE:=(yRL).mono (fun x r hk h=>(yUI x.1 x.2.1 hk).trans h)
end
section
def yyC:Code:=(Tryz.f79.body).getD .skip
def yyI:Env:=zj3 TT [(94,ymp),(96,ykq),(114,ymq),(124,ybC),(170,yvm)] []
theorem yH0:FrOk Tryz.prog ⟨yyI,17,fun _=>none⟩ yyC:=zj7 yb yc ⟨yuY,ysH,yuZ,yey,yHO,trivial⟩
def yID:Nat→Option Seg:=fun _=>none
abbrev yeE:List Par:= [.kp tYs .fz]
abbrev yiD:List OT:= [⟨false,tA,(.pr .fz (.pr (.pr .fz .fz) (.pr (.ow (.pr (.ow .fz) (.pr (.ow (.pr .fz .fz)) (.pr .fz (.ow .fz))))) (.pr .fz (.pr .fz (.pr .fz (.pr .fz (.pr .fz (.pr (.ow (.pr .fz .fz)) (.pr .fz (.pr .fz .fz)))))))))))⟩,⟨false,tI,.fz⟩,⟨false,tI,.fz⟩]
def ybc (a0:List Int):Option (ResD yiD×MutD yeE) :=
 let r1:=ydZ a0
 let r2:=ycz a0 14
 bnd (ybH r1 r2) fun r3 =>
 bnd (ycV r3.2.1) fun r4 =>
 bnd (yr r4.2.1 ([0,5,65535,(-1),65536]:List Int)) fun r5 =>
 some ((r3.1.1,r4.1.1,r5.1.1,()),())
theorem yMn (x:InD yeE):zjx ⟨yyI,17,yID⟩ Tryz.f79.results.toList yyC yeE yiD x=ybc x.1:=by kernel_rfl
theorem yJO:ConOk Tryz.prog 79 ⟨yeE,yiD,fun x=>ybc x.1⟩:=zj2 (yH0) Tryz.func79 (by kernel_rfl) (by kernel_rfl) Tryz.ntmps79.symm (by decide) (fun x r h=>(yMn x).trans h)
def ywa:Con:=⟨yeE,yiD,fun x=>ybc x.1⟩
theorem yKN:ConOk Tryz.prog 79 ywa:=yJO
theorem yWN (a0:List Int) (hb:a0.length≤140737488355328): ∃ (a:dA) (b n:Int),ybc a0=some ((a,b,n,()),())∧yff a:=by
 unfold ybc
 obtain ⟨h1,h2⟩:=yPK a0 14 (by omega) hb
 obtain ⟨a,u1,e1,q1,d1⟩:=yKf _ _ (yWO a0 hb) h1 (by omega)
 obtain ⟨b,u2,e2,_,d2⟩:=y4p u1 d1
 obtain ⟨n,u3,e3,_,d3⟩:=ykr u2 [0,5,65535,-1,65536] d2 (by simp)
 simp only [e1,e2,e3,zkd]
 exact ⟨a,b,n,rfl,q1⟩
end
section
def yjh:Code:=(Tryz.f80.body).getD .skip
def ypv:Env:=zj3 TT [(98,yil),(171,yrp),(172,yvh),(173,ytc),(174,yvg),(179,yxv),(180,yv7)] []
theorem yOi:FrOk Tryz.prog ⟨ypv,98,fun _=>none⟩ yjh:=zj7 yb yc ⟨yql,yDa,yHJ,yFj,yHI,yJU,yKK,trivial⟩
def yBZ:Nat→Option Seg:=fun _=>none
def yaB:Shape:=⟨[(6,false,[.ptr 64 0]),(8,false,[.ptr 4224 0]),(10,false,[.int .i64]),(11,false,[.at 800000000]),(13,false,[.int .i64])],[(64,[.int .i64,.int .i64,.int .i64,.nil,.int .i64,.int .i64,.int .i64,.int .i64,.int .i64,.nil,.int .i64,.bool,.bool]),(4224,[.int .i64,.int .i64,.int .i64,.at 800000001,.int .i64,.int .i64,.int .i64,.int .i64,.int .i64,.at 800000002,.int .i64,.bool,.bool])],[(800000000,tI,.fz),(800000001,tM,(.pr (.ow (.ow .fz)) (.pr (.ow (.pr .fz (.ow .fz))) (.pr .fz (.ow .fz))))),(800000002,tW,(.pr .fz (.ow .fz)))]⟩
def ydQ:Shape:=⟨[(6,false,[.ptr 64 0]),(8,false,[.ptr 4224 0]),(10,false,[.int .i64]),(11,false,[.at 800000000]),(13,false,[.ci .i64 0])],[(64,[.int .i64,.int .i64,.int .i64,.nil,.int .i64,.int .i64,.int .i64,.int .i64,.int .i64,.nil,.int .i64,.bool,.bool]),(4224,[.int .i64,.int .i64,.int .i64,.at 800000001,.int .i64,.int .i64,.int .i64,.int .i64,.int .i64,.at 800000002,.int .i64,.bool,.bool])],[(800000000,tI,.fz),(800000001,tM,(.pr (.ow (.ow .fz)) (.pr (.ow (.pr .fz (.ow .fz))) (.pr .fz (.ow .fz))))),(800000002,tW,(.pr .fz (.ow .fz)))]⟩
def ydN:Shape:=⟨[(6,false,[.ptr 64 0]),(8,false,[.ptr 4224 0]),(10,false,[.int .i64]),(11,false,[.at 800000000]),(13,false,[.int .i64])],[(64,[.int .i64,.int .i64,.int .i64,.nil,.int .i64,.int .i64,.int .i64,.int .i64,.int .i64,.nil,.int .i64,.bool,.bool]),(4224,[.int .i64,.int .i64,.int .i64,.at 800000001,.int .i64,.int .i64,.int .i64,.int .i64,.int .i64,.at 800000002,.int .i64,.bool,.bool])],[(800000000,tI,.fz),(800000001,tM,(.pr (.ow (.ow .fz)) (.pr (.ow (.pr .fz (.ow .fz))) (.pr .fz (.ow .fz))))),(800000002,tW,(.pr .fz (.ow .fz)))]⟩
def yhd:Shape:=⟨[],[],[]⟩
abbrev ymv (v0 v1:Int) (v2 v3:dA) (v4:List Int):(yaB).X:=((((),()),((),()),(v0,()),((),()),(v1,()),()),((v2.1,v2.2.1.1,v2.2.1.2,(),v2.2.2.2.1,v2.2.2.2.2.1,v2.2.2.2.2.2.1,v2.2.2.2.2.2.2.1,v2.2.2.2.2.2.2.2.1,(),v2.2.2.2.2.2.2.2.2.2.1,v2.2.2.2.2.2.2.2.2.2.2.1,v2.2.2.2.2.2.2.2.2.2.2.2,()),(v3.1,v3.2.1.1,v3.2.1.2,(),v3.2.2.2.1,v3.2.2.2.2.1,v3.2.2.2.2.2.1,v3.2.2.2.2.2.2.1,v3.2.2.2.2.2.2.2.1,(),v3.2.2.2.2.2.2.2.2.2.1,v3.2.2.2.2.2.2.2.2.2.2.1,v3.2.2.2.2.2.2.2.2.2.2.2,()),()),(v4,v3.2.2.1,v3.2.2.2.2.2.2.2.2.1,()))
abbrev yJI (v0:Int) (v1 v2:dA) (v3:List Int):(ydQ).X:=((((),()),((),()),(v0,()),((),()),((),()),()),((v1.1,v1.2.1.1,v1.2.1.2,(),v1.2.2.2.1,v1.2.2.2.2.1,v1.2.2.2.2.2.1,v1.2.2.2.2.2.2.1,v1.2.2.2.2.2.2.2.1,(),v1.2.2.2.2.2.2.2.2.2.1,v1.2.2.2.2.2.2.2.2.2.2.1,v1.2.2.2.2.2.2.2.2.2.2.2,()),(v2.1,v2.2.1.1,v2.2.1.2,(),v2.2.2.2.1,v2.2.2.2.2.1,v2.2.2.2.2.2.1,v2.2.2.2.2.2.2.1,v2.2.2.2.2.2.2.2.1,(),v2.2.2.2.2.2.2.2.2.2.1,v2.2.2.2.2.2.2.2.2.2.2.1,v2.2.2.2.2.2.2.2.2.2.2.2,()),()),(v3,v2.2.2.1,v2.2.2.2.2.2.2.2.2.1,()))
abbrev ymy (v0 v1:Int) (v2 v3:dA) (v4:List Int):(ydN).X:=((((),()),((),()),(v0,()),((),()),(v1,()),()),((v2.1,v2.2.1.1,v2.2.1.2,(),v2.2.2.2.1,v2.2.2.2.2.1,v2.2.2.2.2.2.1,v2.2.2.2.2.2.2.1,v2.2.2.2.2.2.2.2.1,(),v2.2.2.2.2.2.2.2.2.2.1,v2.2.2.2.2.2.2.2.2.2.2.1,v2.2.2.2.2.2.2.2.2.2.2.2,()),(v3.1,v3.2.1.1,v3.2.1.2,(),v3.2.2.2.1,v3.2.2.2.2.1,v3.2.2.2.2.2.1,v3.2.2.2.2.2.2.1,v3.2.2.2.2.2.2.2.1,(),v3.2.2.2.2.2.2.2.2.2.1,v3.2.2.2.2.2.2.2.2.2.2.1,v3.2.2.2.2.2.2.2.2.2.2.2,()),()),(v4,v3.2.2.1,v3.2.2.2.2.2.2.2.2.1,()))
def ymW (v0 v1 v2 v3 v4 v5 v6 v7 v8 v9 v10:Int) (v11 v12:Bool) (v13 v14 v15 v16 v17 v18 v19 v20 v21:Int) (v22 v23:Bool) (v24:List Int) (v25:List dM) (v26:List dW):Option ((yaB).X ⊕ ((ydN).X ⊕ (yhd).X)) :=
 bif (ltb v1 (v26.length:Int)) then
 bif (inb v1 v26.length) then
 bif (ltb ((nth v26 v1 (0,[])).1) v0) then
 some (.inl ((((),()),((),()),(v0,()),((),()),((IntKind.i64.wrap (v1+1)),()),()),((v2,v3,v4,(),v5,v6,v7,v8,v9,(),v10,v11,v12,()),(v13,v14,v15,(),v16,v17,v18,v19,v20,(),v21,v22,v23,()),()),(v24,v25,v26,())))
 else
 some (.inr (.inl ((((),()),((),()),(v0,()),((),()),(v1,()),()),((v2,v3,v4,(),v5,v6,v7,v8,v9,(),v10,v11,v12,()),(v13,v14,v15,(),v16,v17,v18,v19,v20,(),v21,v22,v23,()),()),(v24,v25,v26,()))))
 else none
 else
 some (.inr (.inl ((((),()),((),()),(v0,()),((),()),(v1,()),()),((v2,v3,v4,(),v5,v6,v7,v8,v9,(),v10,v11,v12,()),(v13,v14,v15,(),v16,v17,v18,v19,v20,(),v21,v22,v23,()),()),(v24,v25,v26,()))))
def yaQ (x:(yaB).X):=ymW x.1.2.2.1.1 x.1.2.2.2.2.1.1 x.2.1.1.1 x.2.1.1.2.1 x.2.1.1.2.2.1 x.2.1.1.2.2.2.2.1 x.2.1.1.2.2.2.2.2.1 x.2.1.1.2.2.2.2.2.2.1 x.2.1.1.2.2.2.2.2.2.2.1 x.2.1.1.2.2.2.2.2.2.2.2.1 x.2.1.1.2.2.2.2.2.2.2.2.2.2.1 x.2.1.1.2.2.2.2.2.2.2.2.2.2.2.1 x.2.1.1.2.2.2.2.2.2.2.2.2.2.2.2.1 x.2.1.2.1.1 x.2.1.2.1.2.1 x.2.1.2.1.2.2.1 x.2.1.2.1.2.2.2.2.1 x.2.1.2.1.2.2.2.2.2.1 x.2.1.2.1.2.2.2.2.2.2.1 x.2.1.2.1.2.2.2.2.2.2.2.1 x.2.1.2.1.2.2.2.2.2.2.2.2.1 x.2.1.2.1.2.2.2.2.2.2.2.2.2.2.1 x.2.1.2.1.2.2.2.2.2.2.2.2.2.2.2.1 x.2.1.2.1.2.2.2.2.2.2.2.2.2.2.2.2.1 x.2.2.1 x.2.2.2.1 x.2.2.2.2.1
def ywd (x:(ydQ).X):(yaB).X:=((((),()),((),()),(x.1.2.2.1.1,()),((),()),(0,()),()),((x.2.1.1.1,x.2.1.1.2.1,x.2.1.1.2.2.1,(),x.2.1.1.2.2.2.2.1,x.2.1.1.2.2.2.2.2.1,x.2.1.1.2.2.2.2.2.2.1,x.2.1.1.2.2.2.2.2.2.2.1,x.2.1.1.2.2.2.2.2.2.2.2.1,(),x.2.1.1.2.2.2.2.2.2.2.2.2.2.1,x.2.1.1.2.2.2.2.2.2.2.2.2.2.2.1,x.2.1.1.2.2.2.2.2.2.2.2.2.2.2.2.1,()),(x.2.1.2.1.1,x.2.1.2.1.2.1,x.2.1.2.1.2.2.1,(),x.2.1.2.1.2.2.2.2.1,x.2.1.2.1.2.2.2.2.2.1,x.2.1.2.1.2.2.2.2.2.2.1,x.2.1.2.1.2.2.2.2.2.2.2.1,x.2.1.2.1.2.2.2.2.2.2.2.2.1,(),x.2.1.2.1.2.2.2.2.2.2.2.2.2.2.1,x.2.1.2.1.2.2.2.2.2.2.2.2.2.2.2.1,x.2.1.2.1.2.2.2.2.2.2.2.2.2.2.2.2.1,()),()),(x.2.2.1,x.2.2.2.1,x.2.2.2.2.1,()))
def yxn:Code:=(zdD yjh 64 16376).getD .skip
theorem yKd:zdD yjh 64 4094=some (.block 0 (.loop yxn)):=by kernel_rfl
theorem yKT (x:(yaB).X):zg0 ⟨ypv,98,yBZ⟩ 0 yxn 16376 yaB ydN yhd x=yaQ x:=by kernel_rfl
def ywg (x:(ydQ).X):Nat:=18446744073709551616
def yha (x:(ydQ).X):Option ((ydN).X ⊕ (yhd).X):=zz yaQ (ywg x) (ywd x)
def ywk:Seg:=⟨ydQ,ydN,yhd,yha⟩
def yB0:Nat→Option Seg:=fun q=>bif Nat.beq q 4094 then some ywk else yBZ q
theorem yOj:FrOk Tryz.prog ⟨ypv,98,yB0⟩ yjh:=(yOi).loop (sg:=ywk) yaB ywd (by decide) yKd yaQ ywg (by decide) (fun _=>rfl) (fun x r _ h=>h) yKT
abbrev yfS:List Par:= [.rd tA,.rd tI,.rd tI]
abbrev ypI:List OT:= [⟨false,tA,(.pr .fz (.pr (.pr .fz .fz) (.pr (.ow (.pr (.ow (.ow .fz)) (.pr (.ow (.pr .fz (.ow .fz))) (.pr .fz (.ow .fz))))) (.pr .fz (.pr .fz (.pr .fz (.pr .fz (.pr .fz (.pr (.ow (.pr .fz (.ow .fz))) (.pr .fz (.pr .fz .fz)))))))))))⟩,⟨false,tI,.fz⟩]
def ylm (a0:dA) (a1 a2:Int):Option (ResD ypI×MutD yfS) :=
 let r1:=yC a0
 let r2:=ye5 a0 a1
 bif (r2==0) then
 let r3:=yW a2
 bif (!r3) then
 some ((r1,3,()),())
 else
 bif (r2 !=0) then
 some ((r1,r2,()),())
 else
 let r4:=yb8 a0.2.1 a1
 let r5:=ydc a0 r4
 bif (!r5.2) then
 some ((r1,5,()),())
 else
 let r6:=ydb a0.2.1 a1
 bif (inb r6 r5.1.length) then
 zjZ (yha ((((),()),((),()),(r4,()),((),()),((),()),()),((0,0,0,(),0,0,0,0,0,(),0,false,false,()),(r1.1,r1.2.1.1,r1.2.1.2,(),r1.2.2.2.1,r1.2.2.2.2.1,r1.2.2.2.2.2.1,r1.2.2.2.2.2.2.1,r1.2.2.2.2.2.2.2.1,(),r1.2.2.2.2.2.2.2.2.2.1,r1.2.2.2.2.2.2.2.2.2.2.1,r1.2.2.2.2.2.2.2.2.2.2.2,()),()),((r5.1.set (r6).toNat a2),r1.2.2.1,r1.2.2.2.2.2.2.2.2.1,()))) (fun y6 =>
 bif (ltb y6.1.2.2.2.2.1.1 (y6.2.2.2.2.1.length:Int)) then
 bif (inb y6.1.2.2.2.2.1.1 y6.2.2.2.2.1.length) then
 bif ((nth y6.2.2.2.2.1 y6.1.2.2.2.2.1.1 (0,[])).1==y6.1.2.2.1.1) then
 bif (inb y6.1.2.2.2.2.1.1 y6.2.2.2.2.1.length) then
 let r8:=(y6.2.2.2.2.1.set (y6.1.2.2.2.2.1.1).toNat ((nth y6.2.2.2.2.1 y6.1.2.2.2.2.1.1 (0,[])).1,y6.2.2.1))
 some (((y6.2.1.2.1.1,(y6.2.1.2.1.2.1,y6.2.1.2.1.2.2.1),y6.2.2.2.1,y6.2.1.2.1.2.2.2.2.1,y6.2.1.2.1.2.2.2.2.2.1,y6.2.1.2.1.2.2.2.2.2.2.1,y6.2.1.2.1.2.2.2.2.2.2.2.1,y6.2.1.2.1.2.2.2.2.2.2.2.2.1,r8,y6.2.1.2.1.2.2.2.2.2.2.2.2.2.2.1,y6.2.1.2.1.2.2.2.2.2.2.2.2.2.2.2.1,y6.2.1.2.1.2.2.2.2.2.2.2.2.2.2.2.2.1),0,()),())
 else none
 else
 bnd (yan y6.2.2.2.2.1 y6.1.2.2.2.2.1.1 ([(y6.1.2.2.1.1,y6.2.2.1)]:List dW)) fun r9 =>
 some (((y6.2.1.2.1.1,(y6.2.1.2.1.2.1,y6.2.1.2.1.2.2.1),y6.2.2.2.1,y6.2.1.2.1.2.2.2.2.1,y6.2.1.2.1.2.2.2.2.2.1,y6.2.1.2.1.2.2.2.2.2.2.1,y6.2.1.2.1.2.2.2.2.2.2.2.1,y6.2.1.2.1.2.2.2.2.2.2.2.2.1,r9.1.1,y6.2.1.2.1.2.2.2.2.2.2.2.2.2.2.1,y6.2.1.2.1.2.2.2.2.2.2.2.2.2.2.2.1,y6.2.1.2.1.2.2.2.2.2.2.2.2.2.2.2.2.1),0,()),())
 else none
 else
 bnd (yan y6.2.2.2.2.1 y6.1.2.2.2.2.1.1 ([(y6.1.2.2.1.1,y6.2.2.1)]:List dW)) fun r10 =>
 some (((y6.2.1.2.1.1,(y6.2.1.2.1.2.1,y6.2.1.2.1.2.2.1),y6.2.2.2.1,y6.2.1.2.1.2.2.2.2.1,y6.2.1.2.1.2.2.2.2.2.1,y6.2.1.2.1.2.2.2.2.2.2.1,y6.2.1.2.1.2.2.2.2.2.2.2.1,y6.2.1.2.1.2.2.2.2.2.2.2.2.1,r10.1.1,y6.2.1.2.1.2.2.2.2.2.2.2.2.2.2.1,y6.2.1.2.1.2.2.2.2.2.2.2.2.2.2.2.1,y6.2.1.2.1.2.2.2.2.2.2.2.2.2.2.2.2.1),0,()),())) (fun y6 =>
 none)
 else none
 else
 bif (r2 !=0) then
 some ((r1,r2,()),())
 else
 let r11:=yb8 a0.2.1 a1
 let r12:=ydc a0 r11
 bif (!r12.2) then
 some ((r1,5,()),())
 else
 let r13:=ydb a0.2.1 a1
 bif (inb r13 r12.1.length) then
 zjZ (yha ((((),()),((),()),(r11,()),((),()),((),()),()),((0,0,0,(),0,0,0,0,0,(),0,false,false,()),(r1.1,r1.2.1.1,r1.2.1.2,(),r1.2.2.2.1,r1.2.2.2.2.1,r1.2.2.2.2.2.1,r1.2.2.2.2.2.2.1,r1.2.2.2.2.2.2.2.1,(),r1.2.2.2.2.2.2.2.2.2.1,r1.2.2.2.2.2.2.2.2.2.2.1,r1.2.2.2.2.2.2.2.2.2.2.2,()),()),((r12.1.set (r13).toNat a2),r1.2.2.1,r1.2.2.2.2.2.2.2.2.1,()))) (fun y13 =>
 bif (ltb y13.1.2.2.2.2.1.1 (y13.2.2.2.2.1.length:Int)) then
 bif (inb y13.1.2.2.2.2.1.1 y13.2.2.2.2.1.length) then
 bif ((nth y13.2.2.2.2.1 y13.1.2.2.2.2.1.1 (0,[])).1==y13.1.2.2.1.1) then
 bif (inb y13.1.2.2.2.2.1.1 y13.2.2.2.2.1.length) then
 let r15:=(y13.2.2.2.2.1.set (y13.1.2.2.2.2.1.1).toNat ((nth y13.2.2.2.2.1 y13.1.2.2.2.2.1.1 (0,[])).1,y13.2.2.1))
 some (((y13.2.1.2.1.1,(y13.2.1.2.1.2.1,y13.2.1.2.1.2.2.1),y13.2.2.2.1,y13.2.1.2.1.2.2.2.2.1,y13.2.1.2.1.2.2.2.2.2.1,y13.2.1.2.1.2.2.2.2.2.2.1,y13.2.1.2.1.2.2.2.2.2.2.2.1,y13.2.1.2.1.2.2.2.2.2.2.2.2.1,r15,y13.2.1.2.1.2.2.2.2.2.2.2.2.2.2.1,y13.2.1.2.1.2.2.2.2.2.2.2.2.2.2.2.1,y13.2.1.2.1.2.2.2.2.2.2.2.2.2.2.2.2.1),0,()),())
 else none
 else
 bnd (yan y13.2.2.2.2.1 y13.1.2.2.2.2.1.1 ([(y13.1.2.2.1.1,y13.2.2.1)]:List dW)) fun r16 =>
 some (((y13.2.1.2.1.1,(y13.2.1.2.1.2.1,y13.2.1.2.1.2.2.1),y13.2.2.2.1,y13.2.1.2.1.2.2.2.2.1,y13.2.1.2.1.2.2.2.2.2.1,y13.2.1.2.1.2.2.2.2.2.2.1,y13.2.1.2.1.2.2.2.2.2.2.2.1,y13.2.1.2.1.2.2.2.2.2.2.2.2.1,r16.1.1,y13.2.1.2.1.2.2.2.2.2.2.2.2.2.2.1,y13.2.1.2.1.2.2.2.2.2.2.2.2.2.2.2.1,y13.2.1.2.1.2.2.2.2.2.2.2.2.2.2.2.2.1),0,()),())
 else none
 else
 bnd (yan y13.2.2.2.2.1 y13.1.2.2.2.2.1.1 ([(y13.1.2.2.1.1,y13.2.2.1)]:List dW)) fun r17 =>
 some (((y13.2.1.2.1.1,(y13.2.1.2.1.2.1,y13.2.1.2.1.2.2.1),y13.2.2.2.1,y13.2.1.2.1.2.2.2.2.1,y13.2.1.2.1.2.2.2.2.2.1,y13.2.1.2.1.2.2.2.2.2.2.1,y13.2.1.2.1.2.2.2.2.2.2.2.1,y13.2.1.2.1.2.2.2.2.2.2.2.2.1,r17.1.1,y13.2.1.2.1.2.2.2.2.2.2.2.2.2.2.1,y13.2.1.2.1.2.2.2.2.2.2.2.2.2.2.2.1,y13.2.1.2.1.2.2.2.2.2.2.2.2.2.2.2.2.1),0,()),())) (fun y13 =>
 none)
 else none
theorem yWW (x:InD yfS):zjx ⟨ypv,98,yB0⟩ Tryz.f80.results.toList yjh yfS ypI x=ylm x.1 x.2.1 x.2.2.1:=by kernel_rfl
theorem yRA:ConOk Tryz.prog 80 ⟨yfS,ypI,fun x=>ylm x.1 x.2.1 x.2.2.1⟩:=zj2 (yOj) Tryz.func80 (by kernel_rfl) (by kernel_rfl) Tryz.ntmps80.symm (by decide) (fun x r h=>(yWW x).trans h)
def ykx (a0:dA) (a1 a2:Int):dA×Int:=yJ5 a0 a1 a2
theorem yUz (a0:dA) (a1 a2:Int) (hk:zi2 yfS (a0,a1,a2,())):ylm a0 a1 a2=(fun n=>some ((n.1,n.2,()),())) (ykx a0 a1 a2):=by
 unfold ylm ykx yJ5
 simp only [yC,yOK,y4X,show yv a2=isW a2 by unfold yv; rw [ybE]; rfl]
 cases hc:(yau a0 a1==0)
 ·have:(yau a0 a1 !=0)=true:=bne_iff_ne.2 (beq_eq_false_iff_ne.1 hc)
  rw [this]; rfl
 ·have hc:=beq_iff_eq.1 hc
  obtain ⟨ha,hb,_⟩:=yAw hc
  have hs:=yt3 hb
  obtain ⟨_,_,hi⟩:=ykn hb
  have hdl:=yb6 (yet ha) (yR ha)
  rw [hc]
  cases isW a2
  ·rfl
  ·unfold setOne
   simp only [yb8,ydb,yWJ ha hs,y5a ha]
   cases hn:(yI a0 (yB a0.2.1 a1)).2
   ·rfl
   ·have hl:=yoT ha hs hn
    have hx:yaq a0.2.1 a1=a1.tmod (a0.2.1.1 - 1):=by unfold yaq; rw [hb]; rfl
    rw [zjD.2 (show 0≤yaq a0.2.1 a1∧yaq a0.2.1 a1 < (yI a0 (yB a0.2.1 a1)).1.length by omega)]
    generalize (yI a0 (yB a0.2.1 a1)).1.set (yaq a0.2.1 a1).toNat a2=D
    generalize yB a0.2.1 a1=s
    have hF:yha (yJI s yaC a0 D)=some (.inl (ymy s (yty a0.2.2.2.2.2.2.2.2.1 s) yaC a0 D)):=by
     refine (yHG (step:=yaQ) a0.2.2.2.2.2.2.2.2.1 (0,[]) (fun i=>ymv s i yaC a0 D) (fun e:dW=> !ltb e.1 s) (fun i=> .inl (ymy s i yaC a0 D)) (.inl (ymy s (a0.2.2.2.2.2.2.2.2.1.length:Int) yaC a0 D)) (fun i hi=>by
      simp only [yaQ,ymv,ymW,zj5 (show (i:Int) < a0.2.2.2.2.2.2.2.2.1.length by omega),cond_true,wr (show -9223372036854775808≤(i:Int)+1 by omega) (by omega),Int.natCast_add,Int.natCast_one,Int.toNat_natCast,zkm hi,zkn]
      cases ltb (a0.2.2.2.2.2.2.2.2.1.getD i (0,[])).1 s<;>rfl) (by simp only [yaQ,ymv,ymW,zky (Int.le_refl _),cond_false]) 18446744073709551616 (by omega)).trans ?_
     unfold yty
     cases leb 0 (yL (fun x:dW=> !ltb x.1 s) a0.2.2.2.2.2.2.2.2.1)<;>rfl
    have hp:=y6E a0.2.2.2.2.2.2.2.2.1 s
    have hI: ∀ P,0≤P∧P≤(a0.2.2.2.2.2.2.2.2.1.length:Int)→yan a0.2.2.2.2.2.2.2.2.1 P [(s,D)]=some ((a0.2.2.2.2.2.2.2.2.1.take P.toNat++ [(s,D)]++a0.2.2.2.2.2.2.2.2.1.drop P.toNat,()),()):=fun P hP=>yKQ _ _ _ (by
     unfold yaZ
     rw [zkx hP.1,zkx hP.2]
     exact decide_eq_true (show (a0.2.2.2.2.2.2.2.2.1.length+1) * 32≤2 ^ 47 by omega))
    simp only [Bool.not_true,bne_self_eq_false,cond_true,cond_false]
    refine (congrArg (fun z=>zjZ z _ _) hF).trans ?_
    simp only [zki,zks]
    unfold y6a
    generalize yty a0.2.2.2.2.2.2.2.2.1 s=P at hp ⊢
    have hI:=hI P hp
    cases h1:ltb P (a0.2.2.2.2.2.2.2.2.1.length:Int)
    ·simp only [cond_false,hI]; rfl
    ·have hin:=zjD.2 (⟨hp.1,zjH.1 h1⟩:0≤P∧P < (a0.2.2.2.2.2.2.2.2.1.length:Int))
     simp only [hin,cond_true]
     cases ((nth a0.2.2.2.2.2.2.2.2.1 P (0,[])).1==s)
     ·simp only [cond_false,hI]; rfl
     ·rfl
def yCy:Con:=⟨yfS,ypI,fun x=>(fun n=>some ((n.1,n.2,()),())) (ykx x.1 x.2.1 x.2.2.1)⟩
theorem yVo:ConOk Tryz.prog 80 yCy:=(yRA).mono (fun x r hk h=>(yUz x.1 x.2.1 x.2.2.1 hk).trans h)
end
section
def yGe:Code:=(Tryz.f81.body).getD .skip
def yGU:Env:=zj3 TT [(103,yqe),(175,yxF),(181,yxD),(182,yzD)] []
theorem yOB:FrOk Tryz.prog ⟨yGU,31,fun _=>none⟩ yGe:=zj7 yb yc ⟨yzJ,yJ1,yJZ,yL6,trivial⟩
def yP0:Nat→Option Seg:=fun _=>none
abbrev yf2:List Par:= [.rd tA,.rd tI,.rd tI]
abbrev ypW:List OT:= [⟨false,tA,(.pr .fz (.pr (.pr .fz .fz) (.pr (.ow (.pr (.ow .fz) (.pr (.ow (.pr .fz .fz)) (.pr .fz (.ow .fz))))) (.pr .fz (.pr .fz (.pr .fz (.pr .fz (.pr .fz (.pr (.ow (.pr .fz .fz)) (.pr .fz (.pr .fz .fz)))))))))))⟩,⟨false,tI,.fz⟩]
def ylw (a0:dA) (a1 a2:Int):Option (ResD ypW×MutD yf2) :=
 let r1:=ycA a0
 let r2:=yi9 a0 a1
 bif (r2==0) then
 let r3:=yv a2
 bif (!r3) then
 some ((r1,3,()),())
 else
 bif (r2 !=0) then
 some ((r1,r2,()),())
 else
 bnd (ycw r1 a1 a2) fun r4 =>
 some ((r4.2.1,r4.1.1,()),())
 else
 bif (r2 !=0) then
 some ((r1,r2,()),())
 else
 bnd (ycw r1 a1 a2) fun r5 =>
 some ((r5.2.1,r5.1.1,()),())
theorem yXa (x:InD yf2):zjx ⟨yGU,31,yP0⟩ Tryz.f81.results.toList yGe yf2 ypW x=ylw x.1 x.2.1 x.2.2.1:=by kernel_rfl
theorem yRO:ConOk Tryz.prog 81 ⟨yf2,ypW,fun x=>ylw x.1 x.2.1 x.2.2.1⟩:=zj2 (yOB) Tryz.func81 (by kernel_rfl) (by kernel_rfl) Tryz.ntmps81.symm (by decide) (fun x r h=>(yXa x).trans h)
def ykB (a0:dA) (a1 a2:Int):dA×Int:=yJ5 a0 a1 a2
theorem yUL (a0:dA) (a1 a2:Int) (hk:zi2 yf2 (a0,a1,a2,())):ylw a0 a1 a2=(fun n=>some ((n.1,n.2,()),())) (ykB a0 a1 a2):=by
 unfold ylw ykB yJ5
 simp only [ycA,yPC,show yv a2=isW a2 by unfold yv; rw [ybE]; rfl]
 cases hc:(yau a0 a1==0)
 ·have:(yau a0 a1 !=0)=true:=bne_iff_ne.2 (beq_eq_false_iff_ne.1 hc)
  rw [this]; rfl
 ·have hc:=beq_iff_eq.1 hc
  obtain ⟨ha,hb,_⟩:=yAw hc
  rw [hc]
  cases isW a2
  ·rfl
  ·rw [yL8 a0 a1 a2 (by unfold ymT; rw [ha,hb]; exact decide_eq_true (Nat.le_trans (yb6 (yet ha) (yR ha)) (by omega)))]
   rfl
def yCF:Con:=⟨yf2,ypW,fun x=>(fun n=>some ((n.1,n.2,()),())) (ykB x.1 x.2.1 x.2.2.1)⟩
theorem yVv:ConOk Tryz.prog 81 yCF:=(yRO).mono (fun x r hk h=>(yUL x.1 x.2.1 x.2.2.1 hk).trans h)
end
section
def yLp:Code:=(Tryz.f97.body).getD .skip
def yLW:Env:=zj3 TT [(110,yxC),(150,yz)] []
theorem yTS:FrOk Tryz.prog ⟨yLW,16,fun _=>none⟩ yLp:=zj7 yb yc ⟨yJY,yO,trivial⟩
def yWl:Nat→Option Seg:=fun _=>none
abbrev yon:List Par:= [.pt tU .fz,.kp tA (.pr .fz (.pr (.pr .fz .fz) (.pr (.ow (.pr (.ow .fz) (.pr (.ow (.pr .fz .fz)) (.pr .fz (.ow .fz))))) (.pr .fz (.pr .fz (.pr .fz (.pr .fz (.pr .fz (.pr (.ow (.pr .fz .fz)) (.pr .fz (.pr .fz .fz)))))))))))]
abbrev yuL:List OT:= [⟨false,tA,(.pr .fz (.pr (.pr .fz .fz) (.pr (.ow (.pr (.ow .fz) (.pr (.ow (.pr .fz .fz)) (.pr .fz (.ow .fz))))) (.pr .fz (.pr .fz (.pr .fz (.pr .fz (.pr .fz (.pr (.ow (.pr .fz .fz)) (.pr .fz (.pr .fz .fz)))))))))))⟩]
def yd3 (a0:dU) (a1:dA):Option (ResD yuL×MutD yon) :=
 bnd (yat a0 2) fun r1 =>
 bif r1.1.1 then
 bif (a1.2.2.2.2.2.2.2.2.2.1==(-1)) then
 bnd (yd r1.2.1 14) fun r2 =>
 some (((a1.1,a1.2.1,a1.2.2.1,a1.2.2.2.1,a1.2.2.2.2.1,a1.2.2.2.2.2.1,a1.2.2.2.2.2.2.1,a1.2.2.2.2.2.2.2.1,a1.2.2.2.2.2.2.2.2.1,r2.1.1,a1.2.2.2.2.2.2.2.2.2.2),()),(r2.2.1,()))
 else
 some ((a1,()),(r1.2.1,()))
 else
 some ((a1,()),(r1.2.1,()))
theorem y3z (x:InD yon):zjx ⟨yLW,16,yWl⟩ Tryz.f97.results.toList yLp yon yuL x=yd3 x.1 x.2.1:=by kernel_rfl
theorem yZf:ConOk Tryz.prog 97 ⟨yon,yuL,fun x=>yd3 x.1 x.2.1⟩:=zj2 (yTS) Tryz.func97 (by kernel_rfl) (by kernel_rfl) Tryz.ntmps97.symm (by decide) (fun x r h=>(y3z x).trans h)
def yxE:Con:=⟨yon,yuL,fun x=>yd3 x.1 x.2.1⟩
theorem yJ0:ConOk Tryz.prog 97 yxE:=yZf
theorem y5I (u:dU) (a:dA) (h:yG u) (ha:yff a): ∃ (a':dA) (u':dU),yd3 u a=some ((a',()),(u',()))∧yff a'∧yG u':=by
 unfold yd3
 obtain ⟨r,u1,e1,d1⟩:=y0h u 2 h
 simp only [e1,zkd]
 cases r
 ·exact ⟨_,_,rfl,ha,d1⟩
 ·cases (a.2.2.2.2.2.2.2.2.2.1== -1)
  ·exact ⟨_,_,rfl,ha,d1⟩
  ·obtain ⟨x,u2,e2,_,d2⟩:=yA u1 14 d1
   simp only [cond_true,e2,zkd]
   exact ⟨_,_,rfl,ha,d2⟩
end
section
def ytO:Code:=(Tryz.f82.body).getD .skip
def ytQ:Env:=zj3 TT [(94,ymp),(96,ykq),(97,yxE),(114,ymq),(124,ybC)] []
theorem yDw:FrOk Tryz.prog ⟨ytQ,18,fun _=>none⟩ ytO:=zj7 yb yc ⟨yuY,ysH,yJ0,yuZ,yey,trivial⟩
def yDV:Nat→Option Seg:=fun _=>none
abbrev ycs:List Par:= [.kp tYs .fz]
abbrev yfi:List OT:= [⟨false,tA,(.pr .fz (.pr (.pr .fz .fz) (.pr (.ow (.pr (.ow .fz) (.pr (.ow (.pr .fz .fz)) (.pr .fz (.ow .fz))))) (.pr .fz (.pr .fz (.pr .fz (.pr .fz (.pr .fz (.pr (.ow (.pr .fz .fz)) (.pr .fz (.pr .fz .fz)))))))))))⟩,⟨false,tI,.fz⟩]
def yas (a0:List Int):Option (ResD yfi×MutD ycs) :=
 let r1:=ydZ a0
 let r2:=ycz a0 14
 bnd (ybH r1 r2) fun r3 =>
 bnd (yd3 r3.2.1 r3.1.1) fun r4 =>
 bnd (yr r4.2.1 ([0,0,1,2,(-1),8]:List Int)) fun r5 =>
 some ((r4.1.1,r5.1.1,()),())
theorem yHW (x:InD ycs):zjx ⟨ytQ,18,yDV⟩ Tryz.f82.results.toList ytO ycs yfi x=yas x.1:=by kernel_rfl
theorem yFh:ConOk Tryz.prog 82 ⟨ycs,yfi,fun x=>yas x.1⟩:=zj2 (yDw) Tryz.func82 (by kernel_rfl) (by kernel_rfl) Tryz.ntmps82.symm (by decide) (fun x r h=>(yHW x).trans h)
def yrs:Con:=⟨ycs,yfi,fun x=>yas x.1⟩
theorem yF1:ConOk Tryz.prog 82 yrs:=yFh
theorem yNX (a0:List Int) (hb:a0.length≤140737488355328): ∃ (a:dA) (s:Int),yas a0=some ((a,s,()),())∧yff a:=by
 unfold yas
 obtain ⟨h1,h2⟩:=yPK a0 14 (by omega) hb
 obtain ⟨a,u1,e1,q1,d1⟩:=yKf _ _ (yWO a0 hb) h1 (by omega)
 obtain ⟨a',u2,e2,q2,d2⟩:=y5I u1 a d1 q1
 obtain ⟨s,u3,e3,_,d3⟩:=ykr u2 [0,0,1,2,-1,8] d2 (by simp)
 simp only [e1,e2,e3,zkd]
 exact ⟨a',s,rfl,q2⟩
end
end
end Go.Tf
