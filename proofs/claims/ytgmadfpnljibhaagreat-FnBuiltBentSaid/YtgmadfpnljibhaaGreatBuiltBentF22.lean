/- Functions of the program, and what they come to. -/
import Derived.Test.YtgmadfpnljibhaaGreatBuiltBentF21
namespace Go.Tf
noncomputable section
open Go.Proofs
set_option synthInstance.maxHeartbeats 400000
set_option synthInstance.maxSize 10000
set_option linter.unusedVariables false
set_option linter.unusedSimpArgs false
set_option maxRecDepth 100000
section
def yih:Code:=(Tryz.f24.body).getD .skip
def ynM:Env:=zki TT [(15,ywT),(18,ypv),(21,ywR)] []
theorem yKp:FrOk Tryz.prog ⟨ynM,37,fun _=>none⟩ yih:=zkp yc yd ⟨yIc,yAn,yIa,trivial⟩
def yzm:Nat→Option Seg:=fun _=>none
def ybc:Shape:=⟨[(2,false,[.ptr 64 0]),(4,false,[.ptr 4416 0])],[(64,[.int .i64,.int .i64,.int .i64,.nil,.int .i64,.int .i64,.int .i64,.int .i64,.int .i64,.nil,.int .i64,.bool,.bool]),(4416,[.int .i64,.int .i64,.int .i64,.at 800000000,.int .i64,.int .i64,.int .i64,.int .i64,.int .i64,.at 800000001,.int .i64,.bool,.bool])],[(800000000,tM,(.pr (.ow .fz) (.pr (.ow (.pr .fz .fz)) (.pr .fz (.ow .fz))))),(800000001,tW,(.pr .fz .fz))]⟩
def yeT:Shape:=⟨[(2,false,[.ptr 64 0]),(4,false,[.ptr 4416 0])],[(64,[.int .i64,.int .i64,.int .i64,.nil,.int .i64,.int .i64,.int .i64,.int .i64,.int .i64,.nil,.int .i64,.bool,.bool]),(4416,[.int .i64,.int .i64,.int .i64,.at 800000000,.int .i64,.int .i64,.int .i64,.int .i64,.int .i64,.at 800000001,.int .i64,.bool,.bool])],[(800000000,tM,(.pr (.ow .fz) (.pr (.ow (.pr .fz .fz)) (.pr .fz (.ow .fz))))),(800000001,tW,(.pr .fz .fz))]⟩
def yeK:Shape:=⟨[(2,false,[.ptr 64 0]),(4,false,[.ptr 4416 0])],[(64,[.int .i64,.int .i64,.int .i64,.nil,.int .i64,.int .i64,.int .i64,.int .i64,.int .i64,.nil,.int .i64,.bool,.bool]),(4416,[.int .i64,.int .i64,.int .i64,.at 800000000,.int .i64,.int .i64,.int .i64,.int .i64,.int .i64,.at 800000001,.int .i64,.bool,.bool])],[(800000000,tM,(.pr (.ow .fz) (.pr (.ow (.pr .fz .fz)) (.pr .fz (.ow .fz))))),(800000001,tW,(.pr .fz .fz))]⟩
def yeY:Shape:=⟨[(2,false,[.ptr 64 0]),(3,false,[.int .i64])],[(64,[.int .i64,.int .i64,.int .i64,.at 800000000,.int .i64,.int .i64,.int .i64,.int .i64,.int .i64,.at 800000001,.int .i64,.bool,.bool])],[(800000000,tM,(.pr (.ow .fz) (.pr (.ow (.pr .fz .fz)) (.pr .fz (.ow .fz))))),(800000001,tW,(.pr .fz .fz))]⟩
abbrev yhN (v0:dA) (v1:dA):(ybc).X:=((((),()),((),()),()),((v0.1,v0.2.1.1,v0.2.1.2,(),v0.2.2.2.1,v0.2.2.2.2.1,v0.2.2.2.2.2.1,v0.2.2.2.2.2.2.1,v0.2.2.2.2.2.2.2.1,(),v0.2.2.2.2.2.2.2.2.2.1,v0.2.2.2.2.2.2.2.2.2.2.1,v0.2.2.2.2.2.2.2.2.2.2.2,()),(v1.1,v1.2.1.1,v1.2.1.2,(),v1.2.2.2.1,v1.2.2.2.2.1,v1.2.2.2.2.2.1,v1.2.2.2.2.2.2.1,v1.2.2.2.2.2.2.2.1,(),v1.2.2.2.2.2.2.2.2.2.1,v1.2.2.2.2.2.2.2.2.2.2.1,v1.2.2.2.2.2.2.2.2.2.2.2,()),()),(v1.2.2.1,v1.2.2.2.2.2.2.2.2.1,()))
abbrev yIK (v0:dA) (v1:dA):(yeT).X:=((((),()),((),()),()),((v0.1,v0.2.1.1,v0.2.1.2,(),v0.2.2.2.1,v0.2.2.2.2.1,v0.2.2.2.2.2.1,v0.2.2.2.2.2.2.1,v0.2.2.2.2.2.2.2.1,(),v0.2.2.2.2.2.2.2.2.2.1,v0.2.2.2.2.2.2.2.2.2.2.1,v0.2.2.2.2.2.2.2.2.2.2.2,()),(v1.1,v1.2.1.1,v1.2.1.2,(),v1.2.2.2.1,v1.2.2.2.2.1,v1.2.2.2.2.2.1,v1.2.2.2.2.2.2.1,v1.2.2.2.2.2.2.2.1,(),v1.2.2.2.2.2.2.2.2.2.1,v1.2.2.2.2.2.2.2.2.2.2.1,v1.2.2.2.2.2.2.2.2.2.2.2,()),()),(v1.2.2.1,v1.2.2.2.2.2.2.2.2.1,()))
abbrev yID (v0:dA) (v1:dA):(yeK).X:=((((),()),((),()),()),((v0.1,v0.2.1.1,v0.2.1.2,(),v0.2.2.2.1,v0.2.2.2.2.1,v0.2.2.2.2.2.1,v0.2.2.2.2.2.2.1,v0.2.2.2.2.2.2.2.1,(),v0.2.2.2.2.2.2.2.2.2.1,v0.2.2.2.2.2.2.2.2.2.2.1,v0.2.2.2.2.2.2.2.2.2.2.2,()),(v1.1,v1.2.1.1,v1.2.1.2,(),v1.2.2.2.1,v1.2.2.2.2.1,v1.2.2.2.2.2.1,v1.2.2.2.2.2.2.1,v1.2.2.2.2.2.2.2.1,(),v1.2.2.2.2.2.2.2.2.2.1,v1.2.2.2.2.2.2.2.2.2.2.1,v1.2.2.2.2.2.2.2.2.2.2.2,()),()),(v1.2.2.1,v1.2.2.2.2.2.2.2.2.1,()))
abbrev yIN (v0:Int) (v1:dA):(yeY).X:=((((),()),(v0,()),()),((v1.1,v1.2.1.1,v1.2.1.2,(),v1.2.2.2.1,v1.2.2.2.2.1,v1.2.2.2.2.2.1,v1.2.2.2.2.2.2.1,v1.2.2.2.2.2.2.2.1,(),v1.2.2.2.2.2.2.2.2.2.1,v1.2.2.2.2.2.2.2.2.2.2.1,v1.2.2.2.2.2.2.2.2.2.2.2,()),()),(v1.2.2.1,v1.2.2.2.2.2.2.2.2.1,()))
def yhQ (v0:Int) (v1:Int) (v2:Int) (v3:Int) (v4:Int) (v5:Int) (v6:Int) (v7:Int) (v8:Int) (v9:Bool) (v10:Bool) (v11:Int) (v12:Int) (v13:Int) (v14:Int) (v15:Int) (v16:Int) (v17:Int) (v18:Int) (v19:Int) (v20:Bool) (v21:Bool) (v22:List dM) (v23:List dW):Option ((ybc).X ⊕ ((yeK).X ⊕ (yeY).X)) :=
  bif (ltb v15 v13) then
    let r3:=ycm (v11,(v12,v13),v22,v14,v15,v16,v17,v18,v23,v19,v20,v21)
    bif (r3.2 !=0) then
      some (.inr (.inr ((((),()),(r3.2,()),()),((r3.1.1,r3.1.2.1.1,r3.1.2.1.2,(),r3.1.2.2.2.1,r3.1.2.2.2.2.1,r3.1.2.2.2.2.2.1,r3.1.2.2.2.2.2.2.1,r3.1.2.2.2.2.2.2.2.1,(),r3.1.2.2.2.2.2.2.2.2.2.1,r3.1.2.2.2.2.2.2.2.2.2.2.1,r3.1.2.2.2.2.2.2.2.2.2.2.2,()),()),(r3.1.2.2.1,r3.1.2.2.2.2.2.2.2.2.1,()))))
    else
      some (.inl ((((),()),((),()),()),((v0,v1,v2,(),v3,v4,v5,v6,v7,(),v8,v9,v10,()),(r3.1.1,r3.1.2.1.1,r3.1.2.1.2,(),r3.1.2.2.2.1,r3.1.2.2.2.2.1,r3.1.2.2.2.2.2.1,r3.1.2.2.2.2.2.2.1,r3.1.2.2.2.2.2.2.2.1,(),r3.1.2.2.2.2.2.2.2.2.2.1,r3.1.2.2.2.2.2.2.2.2.2.2.1,r3.1.2.2.2.2.2.2.2.2.2.2.2,()),()),(r3.1.2.2.1,r3.1.2.2.2.2.2.2.2.2.1,())))
  else
    some (.inr (.inl ((((),()),((),()),()),((v0,v1,v2,(),v3,v4,v5,v6,v7,(),v8,v9,v10,()),(v11,v12,v13,(),v14,v15,v16,v17,v18,(),v19,v20,v21,()),()),(v22,v23,()))))
def yay (x:(ybc).X):=yhQ x.2.1.1.1 x.2.1.1.2.1 x.2.1.1.2.2.1 x.2.1.1.2.2.2.2.1 x.2.1.1.2.2.2.2.2.1 x.2.1.1.2.2.2.2.2.2.1 x.2.1.1.2.2.2.2.2.2.2.1 x.2.1.1.2.2.2.2.2.2.2.2.1 x.2.1.1.2.2.2.2.2.2.2.2.2.2.1 x.2.1.1.2.2.2.2.2.2.2.2.2.2.2.1 x.2.1.1.2.2.2.2.2.2.2.2.2.2.2.2.1 x.2.1.2.1.1 x.2.1.2.1.2.1 x.2.1.2.1.2.2.1 x.2.1.2.1.2.2.2.2.1 x.2.1.2.1.2.2.2.2.2.1 x.2.1.2.1.2.2.2.2.2.2.1 x.2.1.2.1.2.2.2.2.2.2.2.1 x.2.1.2.1.2.2.2.2.2.2.2.2.1 x.2.1.2.1.2.2.2.2.2.2.2.2.2.2.1 x.2.1.2.1.2.2.2.2.2.2.2.2.2.2.2.1 x.2.1.2.1.2.2.2.2.2.2.2.2.2.2.2.2.1 x.2.2.1 x.2.2.2.1
def ywf (x:(yeT).X):(ybc).X:=((((),()),((),()),()),((x.2.1.1.1,x.2.1.1.2.1,x.2.1.1.2.2.1,(),x.2.1.1.2.2.2.2.1,x.2.1.1.2.2.2.2.2.1,x.2.1.1.2.2.2.2.2.2.1,x.2.1.1.2.2.2.2.2.2.2.1,x.2.1.1.2.2.2.2.2.2.2.2.1,(),x.2.1.1.2.2.2.2.2.2.2.2.2.2.1,x.2.1.1.2.2.2.2.2.2.2.2.2.2.2.1,x.2.1.1.2.2.2.2.2.2.2.2.2.2.2.2.1,()),(x.2.1.2.1.1,x.2.1.2.1.2.1,x.2.1.2.1.2.2.1,(),x.2.1.2.1.2.2.2.2.1,x.2.1.2.1.2.2.2.2.2.1,x.2.1.2.1.2.2.2.2.2.2.1,x.2.1.2.1.2.2.2.2.2.2.2.1,x.2.1.2.1.2.2.2.2.2.2.2.2.1,(),x.2.1.2.1.2.2.2.2.2.2.2.2.2.2.1,x.2.1.2.1.2.2.2.2.2.2.2.2.2.2.2.1,x.2.1.2.1.2.2.2.2.2.2.2.2.2.2.2.2.1,()),()),(x.2.2.1,x.2.2.2.1,()))
def yxN:Code:=(zdI yih 64 120).getD .skip
theorem yJS:zdI yih 64 30=some (.block 0 (.loop yxN)):=by kernel_rfl
theorem yLn (x:(ybc).X):zg7 ⟨ynM,37,yzm⟩ 0 yxN 120 ybc yeK yeY x=yay x:=by kernel_rfl
def ywp (x:(yeT).X):Nat:=(fun (u0:Int) (u1:Int) (u2:Int) (u3:Int) (u4:Int) (u5:Int) (u6:Int) (u7:Int) (u8:Int) (u9:Bool) (u10:Bool) (u11:Int) (u12:Int) (u13:Int) (u14:Int) (u15:Int) (u16:Int) (u17:Int) (u18:Int) (u19:Int) (u20:Bool) (u21:Bool) (u22:List dM) (u23:List dW)=>18446744073709551616) x.2.1.1.1 x.2.1.1.2.1 x.2.1.1.2.2.1 x.2.1.1.2.2.2.2.1 x.2.1.1.2.2.2.2.2.1 x.2.1.1.2.2.2.2.2.2.1 x.2.1.1.2.2.2.2.2.2.2.1 x.2.1.1.2.2.2.2.2.2.2.2.1 x.2.1.1.2.2.2.2.2.2.2.2.2.2.1 x.2.1.1.2.2.2.2.2.2.2.2.2.2.2.1 x.2.1.1.2.2.2.2.2.2.2.2.2.2.2.2.1 x.2.1.2.1.1 x.2.1.2.1.2.1 x.2.1.2.1.2.2.1 x.2.1.2.1.2.2.2.2.1 x.2.1.2.1.2.2.2.2.2.1 x.2.1.2.1.2.2.2.2.2.2.1 x.2.1.2.1.2.2.2.2.2.2.2.1 x.2.1.2.1.2.2.2.2.2.2.2.2.1 x.2.1.2.1.2.2.2.2.2.2.2.2.2.2.1 x.2.1.2.1.2.2.2.2.2.2.2.2.2.2.2.1 x.2.1.2.1.2.2.2.2.2.2.2.2.2.2.2.2.1 x.2.2.1 x.2.2.2.1
def yo4 (x:(yeT).X):Option ((yeK).X ⊕ (yeY).X):=zr yay (ywp x) (ywf x)
def ywE:Seg:=⟨yeT,yeK,yeY,yo4⟩
def yzn:Nat→Option Seg:=fun q=>bif Nat.beq q 30 then some ywE else yzm q
theorem yKq:FrOk Tryz.prog ⟨ynM,37,yzn⟩ yih:=(yKp).loop (sg:=ywE) ybc ywf (by decide) yJS yay ywp (by decide) (fun _=>rfl) (fun x r _ h=>h) yLn
abbrev yfg:List Par:= [.rd tA]
abbrev ynZ:List OT:= [⟨false,tA,(.pr .fz (.pr (.pr .fz .fz) (.pr (.ow (.pr (.ow .fz) (.pr (.ow (.pr .fz .fz)) (.pr .fz (.ow .fz))))) (.pr .fz (.pr .fz (.pr .fz (.pr .fz (.pr .fz (.pr (.ow (.pr .fz .fz)) (.pr .fz (.pr .fz .fz)))))))))))⟩,⟨false,tI,.fz⟩]
def yka (a0:dA):Option (ResD ynZ×MutD yfg) :=
  let r1:=yhA a0
  bif (r1.2 !=0) then
    some ((r1.1,r1.2,()),())
  else
    zjw (yo4 ((((),()),((),()),()),((0,0,0,(),0,0,0,0,0,(),0,false,false,()),(r1.1.1,r1.1.2.1.1,r1.1.2.1.2,(),r1.1.2.2.2.1,r1.1.2.2.2.2.1,r1.1.2.2.2.2.2.1,r1.1.2.2.2.2.2.2.1,r1.1.2.2.2.2.2.2.2.1,(),r1.1.2.2.2.2.2.2.2.2.2.1,r1.1.2.2.2.2.2.2.2.2.2.2.1,r1.1.2.2.2.2.2.2.2.2.2.2.2,()),()),(r1.1.2.2.1,r1.1.2.2.2.2.2.2.2.2.1,()))) (fun y3 =>
      let r5:=yld (y3.2.1.2.1.1,(y3.2.1.2.1.2.1,y3.2.1.2.1.2.2.1),y3.2.2.1,y3.2.1.2.1.2.2.2.2.1,y3.2.1.2.1.2.2.2.2.2.1,y3.2.1.2.1.2.2.2.2.2.2.1,y3.2.1.2.1.2.2.2.2.2.2.2.1,y3.2.1.2.1.2.2.2.2.2.2.2.2.1,y3.2.2.2.1,y3.2.1.2.1.2.2.2.2.2.2.2.2.2.2.1,y3.2.1.2.1.2.2.2.2.2.2.2.2.2.2.2.1,y3.2.1.2.1.2.2.2.2.2.2.2.2.2.2.2.2.1)
      some ((r5.1,r5.2,()),())) (fun y3 =>
      some (((y3.2.1.1.1,(y3.2.1.1.2.1,y3.2.1.1.2.2.1),y3.2.2.1,y3.2.1.1.2.2.2.2.1,y3.2.1.1.2.2.2.2.2.1,y3.2.1.1.2.2.2.2.2.2.1,y3.2.1.1.2.2.2.2.2.2.2.1,y3.2.1.1.2.2.2.2.2.2.2.2.1,y3.2.2.2.1,y3.2.1.1.2.2.2.2.2.2.2.2.2.2.1,y3.2.1.1.2.2.2.2.2.2.2.2.2.2.2.1,y3.2.1.1.2.2.2.2.2.2.2.2.2.2.2.2.1),y3.1.2.1.1,()),()))
theorem yR1 (x:InD yfg):zjH ⟨ynM,37,yzn⟩ Tryz.f24.results.toList yih yfg ynZ x=yka x.1:=by kernel_rfl
theorem yNc:ConOk Tryz.prog 24 ⟨yfg,ynZ,fun x=>yka x.1⟩:=zkh (yKq) Tryz.func24 (by kernel_rfl) (by kernel_rfl) Tryz.ntmps24.symm (by decide) (fun x r h=>(yR1 x).trans h)
def yjq (a0:dA):dA×Int:=ypq a0
theorem yYT: ∀ (n:Nat) (a:dA) (fuel:Nat),(a.2.1.2 - a.2.2.2.2.1).toNat≤n→n < fuel→zr yay fuel (yhN yU a)=some (bif (ygh n a).2 !=0 then .inr (yIN (ygh n a).2 (ygh n a).1) else .inl (yID yU (ygh n a).1)):=by
  intro n
  induction n with
  | zero =>
    intro a fuel h hf
    obtain ⟨fuel,rfl⟩: ∃ m,fuel=m+1:=⟨fuel - 1,by omega⟩
    simp only [zr,yay,yhN,yhQ,zkm (show a.2.1.2≤a.2.2.2.2.1 by omega),cond_false]
    rfl
  | succ n ih =>
    intro a fuel h hf
    obtain ⟨fuel,rfl⟩: ∃ m,fuel=m+1:=⟨fuel - 1,by omega⟩
    cases hS:ltb a.2.2.2.2.1 a.2.1.2
    · rw [y0h hS]
      simp only [zr,yay,yhN,yhQ,hS,cond_false]
      rfl
    · unfold ygh
      rw [hS,cond_true]
      simp only [zr,yay,yhN,yhQ,hS,cond_true,zkV,ycm]
      cases hc:((yN a).2 !=0)
      · obtain ⟨_,h1,h2,h3⟩:=yXp (bne_eq_false_iff_eq.1 hc)
        exact ih (yN a).1 fuel (by rw [h2,h3]; omega) (by omega)
      · simp only [hc,cond_true]
theorem yP2 (a0:dA) (hk:zi9 yfg (a0,())):yka a0=(fun n=>some ((n.1,n.2,()),())) (yjq a0):=by
  unfold yka yjq ypq
  simp only [yhA]
  cases hc:((yL a0).2 !=0)
  · obtain ⟨h1,h2,h3⟩:=yUD (bne_eq_false_iff_eq.1 hc)
    have hg:=yk.1 h3
    have hl:=yYT 8 (yL a0).1 18446744073709551616 (by rw [h1,h2]; omega) (by omega)
    simp only [cond_false]
    refine (congrArg (fun z=>zjw z _ _) (show yo4 (yIK yU (yL a0).1)=_ from hl)).trans ?_
    cases ((ygh 8 (yL a0).1).2 !=0)<;>rfl
  · rfl
def yzN:Con:=⟨yfg,ynZ,fun x=>(fun n=>some ((n.1,n.2,()),())) (yjq x.1)⟩
theorem yQH:ConOk Tryz.prog 24 yzN:=(yNc).mono (fun x r hk h=>(yP2 x.1 hk).trans h)
end
section
def yif:Code:=(Tryz.f36.body).getD .skip
def ynK:Env:=zki TT [] []
theorem yKl:FrOk Tryz.prog ⟨ynK,26,fun _=>none⟩ yif:=zkp yc yd trivial
def yzi:Nat→Option Seg:=fun _=>none
def ycu:Shape:=⟨[(0,false,[.br tI]),(1,false,[.br tI]),(5,false,[.int .i64])],[],[]⟩
def yiM:Shape:=⟨[(0,false,[.br tI]),(1,false,[.br tI]),(5,false,[.ci .i64 0])],[],[]⟩
def yix:Shape:=⟨[],[],[]⟩
def yjb:Shape:=⟨[(4,false,[.bool])],[],[]⟩
def ynA (v0:List Int) (v1:List Int) (v2:Int):Option ((ycu).X ⊕ ((yix).X ⊕ (yjb).X)) :=
  bif (ltb v2 (v0.length:Int)) then
    bif (inb v2 v0.length) then
      bif (inb v2 v1.length) then
        bif ((nth v0 v2 0) !=(nth v1 v2 0)) then
          some (.inr (.inr (((false,()),()),(),())))
        else
          some (.inl (((v0,()),(v1,()),((IntKind.i64.wrap (v2+1)),()),()),(),()))
      else none
    else none
  else
    some (.inr (.inl ((),(),())))
def ybs (x:(ycu).X):=ynA x.1.1.1 x.1.2.1.1 x.1.2.2.1.1
def ywd (x:(yiM).X):(ycu).X:=(((x.1.1.1,()),(x.1.2.1.1,()),(0,()),()),(),())
def yxL:Code:=(zdI yif 64 116).getD .skip
theorem yJQ:zdI yif 64 29=some (.block 0 (.loop yxL)):=by kernel_rfl
theorem yLl (x:(ycu).X):zg7 ⟨ynK,26,yzi⟩ 0 yxL 116 ycu yix yjb x=ybs x:=by kernel_rfl
def ywn (x:(yiM).X):Nat:=(fun (u0:List Int) (u1:List Int)=>18446744073709551616) x.1.1.1 x.1.2.1.1
def yo2 (x:(yiM).X):Option ((yix).X ⊕ (yjb).X):=zr ybs (ywn x) (ywd x)
def ywC:Seg:=⟨yiM,yix,yjb,yo2⟩
def yzj:Nat→Option Seg:=fun q=>bif Nat.beq q 29 then some ywC else yzi q
theorem yKm:FrOk Tryz.prog ⟨ynK,26,yzj⟩ yif:=(yKl).loop (sg:=ywC) ycu ywd (by decide) yJQ ybs ywn (by decide) (fun _=>rfl) (fun x r _ h=>h) yLl
abbrev yff:List Par:= [.rd tL,.rd tL]
abbrev ynX:List OT:= [⟨false,tB,.fz⟩]
def yj9 (a0:List Int) (a1:List Int):Option (ResD ynX×MutD yff) :=
  bif ((a0.length:Int) !=(a1.length:Int)) then
    some ((false,()),())
  else
    zjw (yo2 (((a0,()),(a1,()),((),()),()),(),())) (fun y0 =>
      some ((true,()),())) (fun y0 =>
      some ((y0.1.1.1,()),()))
theorem yRZ (x:InD yff):zjH ⟨ynK,26,yzj⟩ Tryz.f36.results.toList yif yff ynX x=yj9 x.1 x.2.1:=by kernel_rfl
theorem yNa:ConOk Tryz.prog 36 ⟨yff,ynX,fun x=>yj9 x.1 x.2.1⟩:=zkh (yKm) Tryz.func36 (by kernel_rfl) (by kernel_rfl) Tryz.ntmps36.symm (by decide) (fun x r h=>(yRZ x).trans h)
def yaU (a0 a1:List Int):Bool:=decide (a0=a1)
theorem yP1 (a0 a1:List Int) (hk:zi9 yff (a0,a1,())):yj9 a0 a1=(fun n=>some ((n,()),())) (yaU a0 a1):=by
  have hb:a0.length * 8≤2 ^ 47:=hk.1.1
  have hl:a0.length=a1.length→yo2 (((a0,()),(a1,()),((),()),()),(),())=some (bif (List.range a0.length).any (fun i=>a0.getD i 0 !=a1.getD i 0) then .inr (((false,()),()),(),()) else .inl ((),(),())):=fun hL =>
    zf4 (step:=ybs) (fun i=>(((a0,()),(a1,()),((i:Int),()),()),(),())) a0.length (fun i=>a0.getD i 0 !=a1.getD i 0) _ _ (fun i hi=>by
      simp only [ybs,ynA,zkO hi,zkO (hL ▸ hi),zjW,zjI (show (i:Int) < a0.length by omega),cond_true,wr (show -9223372036854775808≤(i:Int)+1 by omega) (by omega),Int.natCast_add,Int.natCast_one]
      cases (a0.getD i 0 !=a1.getD i 0)<;>rfl) (by simp only [ybs,ynA,zkm (Int.le_refl _),cond_false]) _ (by show _ < 18446744073709551616; omega)
  unfold yj9 yaU
  by_cases h:a0.length=a1.length
  · rw [show ((a0.length:Int) !=(a1.length:Int))=false by simp [h],zkX,hl h]
    by_cases e:a0=a1
    · subst e
      have:(List.range a0.length).any (fun i=>a0.getD i 0 !=a0.getD i 0)=false:=by simp
      rw [this,decide_eq_true rfl]
      rfl
    · have:(List.range a0.length).any (fun i=>a0.getD i 0 !=a1.getD i 0)=true:=by
        rcases Bool.eq_false_or_eq_true ((List.range a0.length).any (fun i=>a0.getD i 0 !=a1.getD i 0)) with h2 | h2
        · exact h2
        · refine absurd (List.ext_getElem h fun i h3 h4=> ?_) e
          rw [List.any_eq_false]at h2
          have:=h2 i (List.mem_range.2 h3)
          simpa [h3,h4] using this
      rw [this,decide_eq_false e]
      rfl
  · rw [show ((a0.length:Int) !=(a1.length:Int))=true from bne_iff_ne.2 (by omega),zkY,decide_eq_false (fun e=>h (congrArg _ e))]
theorem ysQ (a:List Int):yaU a a=true:=by unfold yaU; simp
def yrf:Con:=⟨yff,ynX,fun x=>(fun n=>some ((n,()),())) (yaU x.1 x.2.1)⟩
theorem yCy:ConOk Tryz.prog 36 yrf:=(yNa).mono (fun x r hk h=>(yP1 x.1 x.2.1 hk).trans h)
end
section
def ygN:Code:=(Tryz.f56.body).getD .skip
def ylv:Env:=zki TT [(36,yrf)] []
theorem yIu:FrOk Tryz.prog ⟨ylv,42,fun _=>none⟩ ygN:=zkp yc yd ⟨yCy,trivial⟩
def yxu:Nat→Option Seg:=fun _=>none
def yaL:Shape:=⟨[(0,false,[.br tW]),(1,false,[.br tW]),(5,false,[.int .i64])],[],[]⟩
def yd4:Shape:=⟨[(0,false,[.br tW]),(1,false,[.br tW]),(5,false,[.ci .i64 0])],[],[]⟩
def ydZ:Shape:=⟨[],[],[]⟩
def yhH:Shape:=⟨[(4,false,[.bool])],[],[]⟩
abbrev ylV (v0:List dW) (v1:List dW) (v2:Int):(yaL).X:=(((v0,()),(v1,()),(v2,()),()),(),())
abbrev yGV (v0:List dW) (v1:List dW):(yd4).X:=(((v0,()),(v1,()),((),()),()),(),())
abbrev yvr  :(ydZ).X:=((),(),())
def ymg (v0:List dW) (v1:List dW) (v2:Int):Option ((yaL).X ⊕ ((ydZ).X ⊕ (yhH).X)) :=
  bif (ltb v2 (v0.length:Int)) then
    bif (inb v2 v0.length) then
      bif (inb v2 v1.length) then
        bif (!((nth v0 v2 (0,[])).1 !=(nth v1 v2 (0,[])).1)) then
          bif (inb v2 v0.length) then
            bif (inb v2 v1.length) then
              let r2:=yaU ((nth v0 v2 (0,[])).2) ((nth v1 v2 (0,[])).2)
              bif (!r2) then
                some (.inr (.inr (((false,()),()),(),())))
              else
                some (.inl (((v0,()),(v1,()),((IntKind.i64.wrap (v2+1)),()),()),(),()))
            else none
          else none
        else
          some (.inr (.inr (((false,()),()),(),())))
      else none
    else none
  else
    some (.inr (.inl ((),(),())))
def ya0 (x:(yaL).X):=ymg x.1.1.1 x.1.2.1.1 x.1.2.2.1.1
def yvf (x:(yd4).X):(yaL).X:=(((x.1.1.1,()),(x.1.2.1.1,()),(0,()),()),(),())
def yv2:Code:=(zdI ygN 64 116).getD .skip
theorem yIk:zdI ygN 64 29=some (.block 0 (.loop yv2)):=by kernel_rfl
theorem yIY (x:(yaL).X):zg7 ⟨ylv,42,yxu⟩ 0 yv2 116 yaL ydZ yhH x=ya0 x:=by kernel_rfl
def yvk (x:(yd4).X):Nat:=(fun (u0:List dW) (u1:List dW)=>18446744073709551616) x.1.1.1 x.1.2.1.1
def yng (x:(yd4).X):Option ((ydZ).X ⊕ (yhH).X):=zr ya0 (yvk x) (yvf x)
def yvS:Seg:=⟨yd4,ydZ,yhH,yng⟩
def yxv:Nat→Option Seg:=fun q=>bif Nat.beq q 29 then some yvS else yxu q
theorem yIv:FrOk Tryz.prog ⟨ylv,42,yxv⟩ ygN:=(yIu).loop (sg:=yvS) yaL yvf (by decide) yIk ya0 yvk (by decide) (fun _=>rfl) (fun x r _ h=>h) yIY
abbrev ygS:List Par:= [.rd tWs,.rd tWs]
abbrev ylC:List OT:= [⟨false,tB,.fz⟩]
def ycG (a0:List dW) (a1:List dW):Option (ResD ylC×MutD ygS) :=
  bif ((a0.length:Int) !=(a1.length:Int)) then
    some ((false,()),())
  else
    zjw (yng (((a0,()),(a1,()),((),()),()),(),())) (fun y2 =>
      some ((true,()),())) (fun y2 =>
      some ((y2.1.1.1,()),()))
theorem yOq (x:InD ygS):zjH ⟨ylv,42,yxv⟩ Tryz.f56.results.toList ygN ygS ylC x=ycG x.1 x.2.1:=by kernel_rfl
theorem yK5:ConOk Tryz.prog 56 ⟨ygS,ylC,fun x=>ycG x.1 x.2.1⟩:=zkh (yIv) Tryz.func56 (by kernel_rfl) (by kernel_rfl) Tryz.ntmps56.symm (by decide) (fun x r h=>(yOq x).trans h)
def yxS:Con:=⟨ygS,ylC,fun x=>ycG x.1 x.2.1⟩
theorem yNo:ConOk Tryz.prog 56 yxS:=yK5
theorem y0K (l:List dW) (h:l.length≤1000000000):ycG l l=some ((true,()),()):=by
  have l1:yng (yGV l l)=some (.inl yvr) :=
    zks (step:=ya0) l.length (fun i (_:Unit)=>ylV l l i) (fun _ _=>()) (fun _ _=>True) (fun _=> .inl yvr) (fun i s hi _=>⟨by
      simp only [ya0,ylV,ymg,zjI (show (i:Int) < l.length by omega),cond_true,wr (show -9223372036854775808≤(i:Int)+1 by omega) (by omega),Int.natCast_add,Int.natCast_one,Int.toNat_natCast,zkO hi,ysQ,bne_self_eq_false,Bool.not_true,Bool.not_false,cond_true,cond_false],trivial⟩) (fun s _=>by simp only [ya0,ylV,ymg,zkm (Int.le_refl _),cond_false]) () trivial 18446744073709551616 (by omega)
  unfold ycG
  rw [bne_self_eq_false,cond_false]
  exact (congrArg (fun z=>zjw z _ _) l1).trans rfl
end
section
def ycp:Code:=(Tryz.f167.body).getD .skip
def ygp:Env:=zki TT [(36,yrf)] []
theorem yMf:FrOk Tryz.prog ⟨ygp,93,fun _=>none⟩ ycp:=zkp yc yd ⟨yCy,trivial⟩
def yA8:Nat→Option Seg:=fun _=>none
def ybC:Shape:=⟨[(2,false,[.ptr 0 0]),(3,false,[.ptr 64 0]),(5,false,[.int .i64])],[(0,[.br tL,.br tW,.bool,.br tI]),(64,[.br tL,.br tW,.bool,.br tI])],[]⟩
def yf0:Shape:=⟨[(2,false,[.ptr 0 0]),(3,false,[.ptr 64 0]),(5,false,[.ci .i64 0])],[(0,[.br tL,.br tW,.bool,.br tI]),(64,[.br tL,.br tW,.bool,.br tI])],[]⟩
def yfP:Shape:=⟨[(2,false,[.ptr 0 0]),(3,false,[.ptr 64 0])],[(0,[.br tL,.br tW,.bool,.br tI]),(64,[.br tL,.br tW,.bool,.br tI])],[]⟩
def yjT:Shape:=⟨[(4,false,[.bool])],[],[]⟩
abbrev ypG (v0:Int) (v1:dM) (v2:dM):(ybC).X:=((((),()),((),()),(v0,()),()),((v1.1,v1.2.1,v1.2.2.1,v1.2.2.2,()),(v2.1,v2.2.1,v2.2.2.1,v2.2.2.2,()),()),())
abbrev yKO (v0:dM) (v1:dM):(yf0).X:=((((),()),((),()),((),()),()),((v0.1,v0.2.1,v0.2.2.1,v0.2.2.2,()),(v1.1,v1.2.1,v1.2.2.1,v1.2.2.2,()),()),())
abbrev yys (v0:dM) (v1:dM):(yfP).X:=((((),()),((),()),()),((v0.1,v0.2.1,v0.2.2.1,v0.2.2.2,()),(v1.1,v1.2.1,v1.2.2.1,v1.2.2.2,()),()),())
def ypZ (v0:Int) (v1:List (List Int)) (v2:List dW) (v3:Bool) (v4:List Int) (v5:List (List Int)) (v6:List dW) (v7:Bool) (v8:List Int):Option ((ybC).X ⊕ ((yfP).X ⊕ (yjT).X)) :=
  bif (ltb v0 (v1.length:Int)) then
    bif (inb v0 v1.length) then
      bif (inb v0 v5.length) then
        let r3:=yaU (nth v1 v0 []) (nth v5 v0 [])
        bif (!r3) then
          some (.inr (.inr (((false,()),()),(),())))
        else
          some (.inl ((((),()),((),()),((IntKind.i64.wrap (v0+1)),()),()),((v1,v2,v3,v4,()),(v5,v6,v7,v8,()),()),()))
      else none
    else none
  else
    some (.inr (.inl ((((),()),((),()),()),((v1,v2,v3,v4,()),(v5,v6,v7,v8,()),()),())))
def ybR (x:(ybC).X):=ypZ x.1.2.2.1.1 x.2.1.1.1 x.2.1.1.2.1 x.2.1.1.2.2.1 x.2.1.1.2.2.2.1 x.2.1.2.1.1 x.2.1.2.1.2.1 x.2.1.2.1.2.2.1 x.2.1.2.1.2.2.2.1
def yx2 (x:(yf0).X):(ybC).X:=((((),()),((),()),(0,()),()),((x.2.1.1.1,x.2.1.1.2.1,x.2.1.1.2.2.1,x.2.1.1.2.2.2.1,()),(x.2.1.2.1.1,x.2.1.2.1.2.1,x.2.1.2.1.2.2.1,x.2.1.2.1.2.2.2.1,()),()),())
def yzA:Code:=(zdI ycp 64 116).getD .skip
theorem yLR:zdI ycp 64 29=some (.block 0 (.loop yzA)):=by kernel_rfl
theorem yNy (x:(ybC).X):zg7 ⟨ygp,93,yA8⟩ 0 yzA 116 ybC yfP yjT x=ybR x:=by kernel_rfl
def yyh (x:(yf0).X):Nat:=(fun (u0:List (List Int)) (u1:List dW) (u2:Bool) (u3:List Int) (u4:List (List Int)) (u5:List dW) (u6:Bool) (u7:List Int)=>18446744073709551616) x.2.1.1.1 x.2.1.1.2.1 x.2.1.1.2.2.1 x.2.1.1.2.2.2.1 x.2.1.2.1.1 x.2.1.2.1.2.1 x.2.1.2.1.2.2.1 x.2.1.2.1.2.2.2.1
def yq7 (x:(yf0).X):Option ((yfP).X ⊕ (yjT).X):=zr ybR (yyh x) (yx2 x)
def yyH:Seg:=⟨yf0,yfP,yjT,yq7⟩
def ysS:Nat→Option Seg:=fun q=>bif Nat.beq q 29 then some yyH else yA8 q
theorem yMg:FrOk Tryz.prog ⟨ygp,93,ysS⟩ ycp:=(yMf).loop (sg:=yyH) ybC yx2 (by decide) yLR ybR yyh (by decide) (fun _=>rfl) (fun x r _ h=>h) yNy
def ybD:Shape:=⟨[(2,false,[.ptr 0 0]),(3,false,[.ptr 64 0]),(6,false,[.int .i64])],[(0,[.br tL,.br tW,.bool,.br tI]),(64,[.br tL,.br tW,.bool,.br tI])],[]⟩
def yf1:Shape:=⟨[(2,false,[.ptr 0 0]),(3,false,[.ptr 64 0]),(6,false,[.ci .i64 0])],[(0,[.br tL,.br tW,.bool,.br tI]),(64,[.br tL,.br tW,.bool,.br tI])],[]⟩
def yfQ:Shape:=⟨[],[],[]⟩
def yjU:Shape:=⟨[(4,false,[.bool])],[],[]⟩
abbrev ypH (v0:Int) (v1:dM) (v2:dM):(ybD).X:=((((),()),((),()),(v0,()),()),((v1.1,v1.2.1,v1.2.2.1,v1.2.2.2,()),(v2.1,v2.2.1,v2.2.2.1,v2.2.2.2,()),()),())
abbrev yKP (v0:dM) (v1:dM):(yf1).X:=((((),()),((),()),((),()),()),((v0.1,v0.2.1,v0.2.2.1,v0.2.2.2,()),(v1.1,v1.2.1,v1.2.2.1,v1.2.2.2,()),()),())
abbrev yyt  :(yfQ).X:=((),(),())
def yp0 (v0:Int) (v1:List (List Int)) (v2:List dW) (v3:Bool) (v4:List Int) (v5:List (List Int)) (v6:List dW) (v7:Bool) (v8:List Int):Option ((ybD).X ⊕ ((yfQ).X ⊕ (yjU).X)) :=
  bif (ltb v0 (v2.length:Int)) then
    bif (inb v0 v2.length) then
      bif (inb v0 v6.length) then
        bif (!((nth v2 v0 (0,[])).1 !=(nth v6 v0 (0,[])).1)) then
          bif (inb v0 v2.length) then
            bif (inb v0 v6.length) then
              let r6:=yaU ((nth v2 v0 (0,[])).2) ((nth v6 v0 (0,[])).2)
              bif (!r6) then
                some (.inr (.inr (((false,()),()),(),())))
              else
                some (.inl ((((),()),((),()),((IntKind.i64.wrap (v0+1)),()),()),((v1,v2,v3,v4,()),(v5,v6,v7,v8,()),()),()))
            else none
          else none
        else
          some (.inr (.inr (((false,()),()),(),())))
      else none
    else none
  else
    some (.inr (.inl ((),(),())))
def ybS (x:(ybD).X):=yp0 x.1.2.2.1.1 x.2.1.1.1 x.2.1.1.2.1 x.2.1.1.2.2.1 x.2.1.1.2.2.2.1 x.2.1.2.1.1 x.2.1.2.1.2.1 x.2.1.2.1.2.2.1 x.2.1.2.1.2.2.2.1
def yx3 (x:(yf1).X):(ybD).X:=((((),()),((),()),(0,()),()),((x.2.1.1.1,x.2.1.1.2.1,x.2.1.1.2.2.1,x.2.1.1.2.2.2.1,()),(x.2.1.2.1.1,x.2.1.2.1.2.1,x.2.1.2.1.2.2.1,x.2.1.2.1.2.2.2.1,()),()),())
def yzB:Code:=(zdI ycp 64 244).getD .skip
theorem yLS:zdI ycp 64 61=some (.block 2 (.loop yzB)):=by kernel_rfl
theorem yNz (x:(ybD).X):zg7 ⟨ygp,93,ysS⟩ 2 yzB 244 ybD yfQ yjU x=ybS x:=by kernel_rfl
def yyi (x:(yf1).X):Nat:=(fun (u0:List (List Int)) (u1:List dW) (u2:Bool) (u3:List Int) (u4:List (List Int)) (u5:List dW) (u6:Bool) (u7:List Int)=>18446744073709551616) x.2.1.1.1 x.2.1.1.2.1 x.2.1.1.2.2.1 x.2.1.1.2.2.2.1 x.2.1.2.1.1 x.2.1.2.1.2.1 x.2.1.2.1.2.2.1 x.2.1.2.1.2.2.2.1
def yq8 (x:(yf1).X):Option ((yfQ).X ⊕ (yjU).X):=zr ybS (yyi x) (yx3 x)
def yyI:Seg:=⟨yf1,yfQ,yjU,yq8⟩
def yA9:Nat→Option Seg:=fun q=>bif Nat.beq q 61 then some yyI else ysS q
theorem yMh:FrOk Tryz.prog ⟨ygp,93,yA9⟩ ycp:=(yMg).loop (sg:=yyI) ybD yx3 (by decide) yLS ybS yyi (by decide) (fun _=>rfl) (fun x r _ h=>h) yNz
abbrev ykE:List Par:= [.rd tM,.rd tM]
abbrev yqo:List OT:= [⟨false,tB,.fz⟩]
def yes (a0:dM) (a1:dM):Option (ResD yqo×MutD ykE) :=
  bif (!((a0.1.length:Int) !=(a1.1.length:Int))) then
    bif (!((a0.2.1.length:Int) !=(a1.2.1.length:Int))) then
      bif (!(!(a0.2.2.1==a1.2.2.1))) then
        let r1:=yaU a0.2.2.2 a1.2.2.2
        bif (!r1) then
          some ((false,()),())
        else
          zjw (yq7 ((((),()),((),()),((),()),()),((a0.1,a0.2.1,a0.2.2.1,a0.2.2.2,()),(a1.1,a1.2.1,a1.2.2.1,a1.2.2.2,()),()),())) (fun y3 =>
            zjw (yq8 ((((),()),((),()),((),()),()),((y3.2.1.1.1,y3.2.1.1.2.1,y3.2.1.1.2.2.1,y3.2.1.1.2.2.2.1,()),(y3.2.1.2.1.1,y3.2.1.2.1.2.1,y3.2.1.2.1.2.2.1,y3.2.1.2.1.2.2.2.1,()),()),())) (fun y6 =>
              some ((true,()),())) (fun y6 =>
              some ((y6.1.1.1,()),()))) (fun y3 =>
            some ((y3.1.1.1,()),()))
      else
        some ((false,()),())
    else
      some ((false,()),())
  else
    some ((false,()),())
theorem yVc (x:InD ykE):zjH ⟨ygp,93,yA9⟩ Tryz.f167.results.toList ycp ykE yqo x=yes x.1 x.2.1:=by kernel_rfl
theorem yQm:ConOk Tryz.prog 167 ⟨ykE,yqo,fun x=>yes x.1 x.2.1⟩:=zkh (yMh) Tryz.func167 (by kernel_rfl) (by kernel_rfl) Tryz.ntmps167.symm (by decide) (fun x r h=>(yVc x).trans h)
def yBL:Con:=⟨ykE,yqo,fun x=>yes x.1 x.2.1⟩
theorem yUc:ConOk Tryz.prog 167 yBL:=yQm
theorem y1B (m:dM) (h1:m.1.length≤1000000000) (h2:m.2.1.length≤1000000000):yes m m=some ((true,()),()):=by
  have l1:yq7 (yKO m m)=some (.inl (yys m m)) :=
    zks (step:=ybR) m.1.length (fun i (_:Unit)=>ypG i m m) (fun _ _=>()) (fun _ _=>True) (fun _=> .inl (yys m m)) (fun i s hi _=>⟨by
      simp only [ybR,ypG,ypZ,zjI (show (i:Int) < m.1.length by omega),cond_true,wr (show -9223372036854775808≤(i:Int)+1 by omega) (by omega),Int.natCast_add,Int.natCast_one,Int.toNat_natCast,zkO hi,ysQ,Bool.not_true,cond_false],trivial⟩) (fun s _=>by simp only [ybR,ypG,ypZ,zkm (Int.le_refl _),cond_false]) () trivial 18446744073709551616 (by omega)
  have l2:yq8 (yKP m m)=some (.inl yyt) :=
    zks (step:=ybS) m.2.1.length (fun i (_:Unit)=>ypH i m m) (fun _ _=>()) (fun _ _=>True) (fun _=> .inl yyt) (fun i s hi _=>⟨by
      simp only [ybS,ypH,yp0,zjI (show (i:Int) < m.2.1.length by omega),cond_true,wr (show -9223372036854775808≤(i:Int)+1 by omega) (by omega),Int.natCast_add,Int.natCast_one,Int.toNat_natCast,zkO hi,ysQ,bne_self_eq_false,Bool.not_true,Bool.not_false,cond_true,cond_false],trivial⟩) (fun s _=>by simp only [ybS,ypH,yp0,zkm (Int.le_refl _),cond_false]) () trivial 18446744073709551616 (by omega)
  unfold yes
  simp only [bne_self_eq_false,beq_self_eq_true,ysQ,Bool.not_true,Bool.not_false,cond_true,cond_false]
  refine (congrArg (fun z=>zjw z _ _) l1).trans ?_
  rw [zkJ]
  exact (congrArg (fun z=>zjw z _ _) l2).trans rfl
end
section
def yig:Code:=(Tryz.f71.body).getD .skip
def ynL:Env:=zki TT [(167,yBL)] []
theorem yKn:FrOk Tryz.prog ⟨ynL,27,fun _=>none⟩ yig:=zkp yc yd ⟨yUc,trivial⟩
def yzk:Nat→Option Seg:=fun _=>none
def ybb:Shape:=⟨[(0,false,[.br tM]),(1,false,[.br tM]),(5,false,[.int .i64])],[],[]⟩
def yeS:Shape:=⟨[(0,false,[.br tM]),(1,false,[.br tM]),(5,false,[.ci .i64 0])],[],[]⟩
def yeJ:Shape:=⟨[],[],[]⟩
def yjc:Shape:=⟨[(4,false,[.bool])],[],[]⟩
abbrev yno (v0:List dM) (v1:List dM) (v2:Int):(ybb).X:=(((v0,()),(v1,()),(v2,()),()),(),())
abbrev yIJ (v0:List dM) (v1:List dM):(yeS).X:=(((v0,()),(v1,()),((),()),()),(),())
abbrev ywu  :(yeJ).X:=((),(),())
def ynB (v0:List dM) (v1:List dM) (v2:Int):Option ((ybb).X ⊕ ((yeJ).X ⊕ (yjc).X)) :=
  bif (ltb v2 (v0.length:Int)) then
    bif (inb v2 v0.length) then
      bif (inb v2 v1.length) then
        bnd (yes ((nth v0 v2 ([],[],false,[])).1,((nth v0 v2 ([],[],false,[])).2).1,(((nth v0 v2 ([],[],false,[])).2).2)) ((nth v1 v2 ([],[],false,[])).1,((nth v1 v2 ([],[],false,[])).2).1,(((nth v1 v2 ([],[],false,[])).2).2))) fun r2 =>
        bif (!r2.1.1) then
          some (.inr (.inr (((false,()),()),(),())))
        else
          some (.inl (((v0,()),(v1,()),((IntKind.i64.wrap (v2+1)),()),()),(),()))
      else none
    else none
  else
    some (.inr (.inl ((),(),())))
def ybt (x:(ybb).X):=ynB x.1.1.1 x.1.2.1.1 x.1.2.2.1.1
def ywe (x:(yeS).X):(ybb).X:=(((x.1.1.1,()),(x.1.2.1.1,()),(0,()),()),(),())
def yxM:Code:=(zdI yig 64 116).getD .skip
theorem yJR:zdI yig 64 29=some (.block 0 (.loop yxM)):=by kernel_rfl
theorem yLm (x:(ybb).X):zg7 ⟨ynL,27,yzk⟩ 0 yxM 116 ybb yeJ yjc x=ybt x:=by kernel_rfl
def ywo (x:(yeS).X):Nat:=(fun (u0:List dM) (u1:List dM)=>18446744073709551616) x.1.1.1 x.1.2.1.1
def yo3 (x:(yeS).X):Option ((yeJ).X ⊕ (yjc).X):=zr ybt (ywo x) (ywe x)
def ywD:Seg:=⟨yeS,yeJ,yjc,yo3⟩
def yzl:Nat→Option Seg:=fun q=>bif Nat.beq q 29 then some ywD else yzk q
theorem yKo:FrOk Tryz.prog ⟨ynL,27,yzl⟩ yig:=(yKn).loop (sg:=ywD) ybb ywe (by decide) yJR ybt ywo (by decide) (fun _=>rfl) (fun x r _ h=>h) yLm
abbrev yio:List Par:= [.rd tMs,.rd tMs]
abbrev ynY:List OT:= [⟨false,tB,.fz⟩]
def ydx (a0:List dM) (a1:List dM):Option (ResD ynY×MutD yio) :=
  bif ((a0.length:Int) !=(a1.length:Int)) then
    some ((false,()),())
  else
    zjw (yo3 (((a0,()),(a1,()),((),()),()),(),())) (fun y2 =>
      some ((true,()),())) (fun y2 =>
      some ((y2.1.1.1,()),()))
theorem yR0 (x:InD yio):zjH ⟨ynL,27,yzl⟩ Tryz.f71.results.toList yig yio ynY x=ydx x.1 x.2.1:=by kernel_rfl
theorem yNb:ConOk Tryz.prog 71 ⟨yio,ynY,fun x=>ydx x.1 x.2.1⟩:=zkh (yKo) Tryz.func71 (by kernel_rfl) (by kernel_rfl) Tryz.ntmps71.symm (by decide) (fun x r h=>(yR0 x).trans h)
def yzM:Con:=⟨yio,ynY,fun x=>ydx x.1 x.2.1⟩
theorem yQG:ConOk Tryz.prog 71 yzM:=yNb
theorem y1a (l:List dM) (h:l.length≤1000000000) (hm: ∀ m∈l,m.1.length≤1000000000∧m.2.1.length≤1000000000):ydx l l=some ((true,()),()):=by
  have l1:yo3 (yIJ l l)=some (.inl ywu) :=
    zks (step:=ybt) l.length (fun i (_:Unit)=>yno l l i) (fun _ _=>()) (fun _ _=>True) (fun _=> .inl ywu) (fun i s hi _=>⟨by
      have hn:=yw2 (P:=fun m:dM=>m.1.length≤1000000000∧m.2.1.length≤1000000000) (d:=ye) (zkO hi) hm
      simp only [ybt,yno,ynB,zjI (show (i:Int) < l.length by omega),cond_true,wr (show -9223372036854775808≤(i:Int)+1 by omega) (by omega),Int.natCast_add,Int.natCast_one,Int.toNat_natCast,zkO hi,zkV]
      rw [y1B _ hn.1 hn.2]; rfl,trivial⟩) (fun s _=>by simp only [ybt,yno,ynB,zkm (Int.le_refl _),cond_false]) () trivial 18446744073709551616 (by omega)
  unfold ydx
  rw [bne_self_eq_false,cond_false]
  exact (congrArg (fun z=>zjw z _ _) l1).trans rfl
end
section
def yE4:Code:=(Tryz.f25.body).getD .skip
def yFI:Env:=zki TT [(56,yxS),(71,yzM)] []
theorem yMe:FrOk Tryz.prog ⟨yFI,87,fun _=>none⟩ yE4:=zkp yc yd ⟨yNo,yQG,trivial⟩
def yNU:Nat→Option Seg:=fun _=>none
abbrev ykD:List Par:= [.rd tA,.rd tA]
abbrev yqn:List OT:= [⟨false,tB,.fz⟩]
def yax (a0:dA) (a1:dA):Option (ResD yqn×MutD ykD) :=
  bif (a0.1==a1.1) then
    bif ((a0.2.1.1==a1.2.1.1)&&((a0.2.1.2==a1.2.1.2)&&true)) then
      bnd (ydx a0.2.2.1 a1.2.2.1) fun r1 =>
      bif r1.1.1 then
        bif (a0.2.2.2.1==a1.2.2.2.1) then
          bif (a0.2.2.2.2.1==a1.2.2.2.2.1) then
            bif (a0.2.2.2.2.2.1==a1.2.2.2.2.2.1) then
              bif (a0.2.2.2.2.2.2.1==a1.2.2.2.2.2.2.1) then
                bif (a0.2.2.2.2.2.2.2.1==a1.2.2.2.2.2.2.2.1) then
                  bnd (ycG a0.2.2.2.2.2.2.2.2.1 a1.2.2.2.2.2.2.2.2.1) fun r2 =>
                  bif r2.1.1 then
                    bif (a0.2.2.2.2.2.2.2.2.2.1==a1.2.2.2.2.2.2.2.2.2.1) then
                      bif (a0.2.2.2.2.2.2.2.2.2.2.1==a1.2.2.2.2.2.2.2.2.2.2.1) then
                        some (((a0.2.2.2.2.2.2.2.2.2.2.2==a1.2.2.2.2.2.2.2.2.2.2.2),()),())
                      else
                        some ((false,()),())
                    else
                      some ((false,()),())
                  else
                    some ((false,()),())
                else
                  some ((false,()),())
              else
                some ((false,()),())
            else
              some ((false,()),())
          else
            some ((false,()),())
        else
          some ((false,()),())
      else
        some ((false,()),())
    else
      some ((false,()),())
  else
    some ((false,()),())
theorem yVb (x:InD ykD):zjH ⟨yFI,87,yNU⟩ Tryz.f25.results.toList yE4 ykD yqn x=yax x.1 x.2.1:=by kernel_rfl
theorem yQl:ConOk Tryz.prog 25 ⟨ykD,yqn,fun x=>yax x.1 x.2.1⟩:=zkh (yMe) Tryz.func25 (by kernel_rfl) (by kernel_rfl) Tryz.ntmps25.symm (by decide) (fun x r h=>(yVb x).trans h)
def yBK:Con:=⟨ykD,yqn,fun x=>yax x.1 x.2.1⟩
theorem yUb:ConOk Tryz.prog 25 yBK:=yQl
theorem yG8 (a:dA) (h:yb2 a):yax a a=some ((true,()),()):=by
  unfold yax
  rw [y1a _ h.1 h.2.1,y0K _ h.2.2]
  simp only [beq_self_eq_true,Bool.and_self,zky,cond_true]
end
end
end Go.Tf
