/- Functions of the program, and what they come to. -/
import Derived.Test.YtfpjmijaiekbgaaGreatExactBuildAllF12
namespace Go.Tf
noncomputable section
open Go.Proofs
set_option synthInstance.maxHeartbeats 400000
set_option synthInstance.maxSize 10000
set_option linter.unusedVariables false
set_option linter.unusedSimpArgs false
set_option maxRecDepth 100000
section
def ygN:Code:=(Tryz.f33.body).getD .skip
def ymb:Env:=zki TT [(22,yvw),(104,yDd),(105,yDb)] []
theorem yGL:FrOk Tryz.prog ⟨ymb,37,fun _=>none⟩ ygN:=zkp yb yc ⟨yJs,yT6,yT4,trivial⟩
def yw6:Nat→Option Seg:=fun _=>none
def yax:Shape:=⟨[(2,false,[.ptr 64 0]),(4,false,[.ptr 4416 0])],[(64,[.int .i64,.int .i64,.int .i64,.nil,.int .i64,.int .i64,.int .i64,.int .i64,.int .i64,.nil,.int .i64,.bool,.bool]),(4416,[.int .i64,.int .i64,.int .i64,.at 800000000,.int .i64,.int .i64,.int .i64,.int .i64,.int .i64,.at 800000001,.int .i64,.bool,.bool])],[(800000000,tM,(.pr (.ow .fz) (.pr (.ow (.pr .fz .fz)) (.pr .fz (.ow .fz))))),(800000001,tW,(.pr .fz .fz))]⟩
def ydO:Shape:=⟨[(2,false,[.ptr 64 0]),(4,false,[.ptr 4416 0])],[(64,[.int .i64,.int .i64,.int .i64,.nil,.int .i64,.int .i64,.int .i64,.int .i64,.int .i64,.nil,.int .i64,.bool,.bool]),(4416,[.int .i64,.int .i64,.int .i64,.at 800000000,.int .i64,.int .i64,.int .i64,.int .i64,.int .i64,.at 800000001,.int .i64,.bool,.bool])],[(800000000,tM,(.pr (.ow .fz) (.pr (.ow (.pr .fz .fz)) (.pr .fz (.ow .fz))))),(800000001,tW,(.pr .fz .fz))]⟩
def ydH:Shape:=⟨[(2,false,[.ptr 64 0]),(4,false,[.ptr 4416 0])],[(64,[.int .i64,.int .i64,.int .i64,.nil,.int .i64,.int .i64,.int .i64,.int .i64,.int .i64,.nil,.int .i64,.bool,.bool]),(4416,[.int .i64,.int .i64,.int .i64,.at 800000000,.int .i64,.int .i64,.int .i64,.int .i64,.int .i64,.at 800000001,.int .i64,.bool,.bool])],[(800000000,tM,(.pr (.ow .fz) (.pr (.ow (.pr .fz .fz)) (.pr .fz (.ow .fz))))),(800000001,tW,(.pr .fz .fz))]⟩
def ydS:Shape:=⟨[(2,false,[.ptr 64 0]),(3,false,[.int .i64])],[(64,[.int .i64,.int .i64,.int .i64,.at 800000000,.int .i64,.int .i64,.int .i64,.int .i64,.int .i64,.at 800000001,.int .i64,.bool,.bool])],[(800000000,tM,(.pr (.ow .fz) (.pr (.ow (.pr .fz .fz)) (.pr .fz (.ow .fz))))),(800000001,tW,(.pr .fz .fz))]⟩
abbrev ygb (v0:dA) (v1:dA):(yax).X:=((((),()),((),()),()),((v0.1,v0.2.1.1,v0.2.1.2,(),v0.2.2.2.1,v0.2.2.2.2.1,v0.2.2.2.2.2.1,v0.2.2.2.2.2.2.1,v0.2.2.2.2.2.2.2.1,(),v0.2.2.2.2.2.2.2.2.2.1,v0.2.2.2.2.2.2.2.2.2.2.1,v0.2.2.2.2.2.2.2.2.2.2.2,()),(v1.1,v1.2.1.1,v1.2.1.2,(),v1.2.2.2.1,v1.2.2.2.2.1,v1.2.2.2.2.2.1,v1.2.2.2.2.2.2.1,v1.2.2.2.2.2.2.2.1,(),v1.2.2.2.2.2.2.2.2.2.1,v1.2.2.2.2.2.2.2.2.2.2.1,v1.2.2.2.2.2.2.2.2.2.2.2,()),()),(v1.2.2.1,v1.2.2.2.2.2.2.2.2.1,()))
abbrev yEZ (v0:dA) (v1:dA):(ydO).X:=((((),()),((),()),()),((v0.1,v0.2.1.1,v0.2.1.2,(),v0.2.2.2.1,v0.2.2.2.2.1,v0.2.2.2.2.2.1,v0.2.2.2.2.2.2.1,v0.2.2.2.2.2.2.2.1,(),v0.2.2.2.2.2.2.2.2.2.1,v0.2.2.2.2.2.2.2.2.2.2.1,v0.2.2.2.2.2.2.2.2.2.2.2,()),(v1.1,v1.2.1.1,v1.2.1.2,(),v1.2.2.2.1,v1.2.2.2.2.1,v1.2.2.2.2.2.1,v1.2.2.2.2.2.2.1,v1.2.2.2.2.2.2.2.1,(),v1.2.2.2.2.2.2.2.2.2.1,v1.2.2.2.2.2.2.2.2.2.2.1,v1.2.2.2.2.2.2.2.2.2.2.2,()),()),(v1.2.2.1,v1.2.2.2.2.2.2.2.2.1,()))
abbrev yEU (v0:dA) (v1:dA):(ydH).X:=((((),()),((),()),()),((v0.1,v0.2.1.1,v0.2.1.2,(),v0.2.2.2.1,v0.2.2.2.2.1,v0.2.2.2.2.2.1,v0.2.2.2.2.2.2.1,v0.2.2.2.2.2.2.2.1,(),v0.2.2.2.2.2.2.2.2.2.1,v0.2.2.2.2.2.2.2.2.2.2.1,v0.2.2.2.2.2.2.2.2.2.2.2,()),(v1.1,v1.2.1.1,v1.2.1.2,(),v1.2.2.2.1,v1.2.2.2.2.1,v1.2.2.2.2.2.1,v1.2.2.2.2.2.2.1,v1.2.2.2.2.2.2.2.1,(),v1.2.2.2.2.2.2.2.2.2.1,v1.2.2.2.2.2.2.2.2.2.2.1,v1.2.2.2.2.2.2.2.2.2.2.2,()),()),(v1.2.2.1,v1.2.2.2.2.2.2.2.2.1,()))
abbrev yE1 (v0:Int) (v1:dA):(ydS).X:=((((),()),(v0,()),()),((v1.1,v1.2.1.1,v1.2.1.2,(),v1.2.2.2.1,v1.2.2.2.2.1,v1.2.2.2.2.2.1,v1.2.2.2.2.2.2.1,v1.2.2.2.2.2.2.2.1,(),v1.2.2.2.2.2.2.2.2.2.1,v1.2.2.2.2.2.2.2.2.2.2.1,v1.2.2.2.2.2.2.2.2.2.2.2,()),()),(v1.2.2.1,v1.2.2.2.2.2.2.2.2.1,()))
def ygc (v0:Int) (v1:Int) (v2:Int) (v3:Int) (v4:Int) (v5:Int) (v6:Int) (v7:Int) (v8:Int) (v9:Bool) (v10:Bool) (v11:Int) (v12:Int) (v13:Int) (v14:Int) (v15:Int) (v16:Int) (v17:Int) (v18:Int) (v19:Int) (v20:Bool) (v21:Bool) (v22:List dM) (v23:List dW):Option ((yax).X ⊕ ((ydH).X ⊕ (ydS).X)) :=
  bif (ltb v15 v13) then
    let r3:=yfX (v11,(v12,v13),v22,v14,v15,v16,v17,v18,v23,v19,v20,v21)
    bif (r3.2 !=0) then
      some (.inr (.inr ((((),()),(r3.2,()),()),((r3.1.1,r3.1.2.1.1,r3.1.2.1.2,(),r3.1.2.2.2.1,r3.1.2.2.2.2.1,r3.1.2.2.2.2.2.1,r3.1.2.2.2.2.2.2.1,r3.1.2.2.2.2.2.2.2.1,(),r3.1.2.2.2.2.2.2.2.2.2.1,r3.1.2.2.2.2.2.2.2.2.2.2.1,r3.1.2.2.2.2.2.2.2.2.2.2.2,()),()),(r3.1.2.2.1,r3.1.2.2.2.2.2.2.2.2.1,()))))
    else
      some (.inl ((((),()),((),()),()),((v0,v1,v2,(),v3,v4,v5,v6,v7,(),v8,v9,v10,()),(r3.1.1,r3.1.2.1.1,r3.1.2.1.2,(),r3.1.2.2.2.1,r3.1.2.2.2.2.1,r3.1.2.2.2.2.2.1,r3.1.2.2.2.2.2.2.1,r3.1.2.2.2.2.2.2.2.1,(),r3.1.2.2.2.2.2.2.2.2.2.1,r3.1.2.2.2.2.2.2.2.2.2.2.1,r3.1.2.2.2.2.2.2.2.2.2.2.2,()),()),(r3.1.2.2.1,r3.1.2.2.2.2.2.2.2.2.1,())))
  else
    some (.inr (.inl ((((),()),((),()),()),((v0,v1,v2,(),v3,v4,v5,v6,v7,(),v8,v9,v10,()),(v11,v12,v13,(),v14,v15,v16,v17,v18,(),v19,v20,v21,()),()),(v22,v23,()))))
def yZ (x:(yax).X):=ygc x.2.1.1.1 x.2.1.1.2.1 x.2.1.1.2.2.1 x.2.1.1.2.2.2.2.1 x.2.1.1.2.2.2.2.2.1 x.2.1.1.2.2.2.2.2.2.1 x.2.1.1.2.2.2.2.2.2.2.1 x.2.1.1.2.2.2.2.2.2.2.2.1 x.2.1.1.2.2.2.2.2.2.2.2.2.2.1 x.2.1.1.2.2.2.2.2.2.2.2.2.2.2.1 x.2.1.1.2.2.2.2.2.2.2.2.2.2.2.2.1 x.2.1.2.1.1 x.2.1.2.1.2.1 x.2.1.2.1.2.2.1 x.2.1.2.1.2.2.2.2.1 x.2.1.2.1.2.2.2.2.2.1 x.2.1.2.1.2.2.2.2.2.2.1 x.2.1.2.1.2.2.2.2.2.2.2.1 x.2.1.2.1.2.2.2.2.2.2.2.2.1 x.2.1.2.1.2.2.2.2.2.2.2.2.2.2.1 x.2.1.2.1.2.2.2.2.2.2.2.2.2.2.2.1 x.2.1.2.1.2.2.2.2.2.2.2.2.2.2.2.2.1 x.2.2.1 x.2.2.2.1
def ytS (x:(ydO).X):(yax).X:=((((),()),((),()),()),((x.2.1.1.1,x.2.1.1.2.1,x.2.1.1.2.2.1,(),x.2.1.1.2.2.2.2.1,x.2.1.1.2.2.2.2.2.1,x.2.1.1.2.2.2.2.2.2.1,x.2.1.1.2.2.2.2.2.2.2.1,x.2.1.1.2.2.2.2.2.2.2.2.1,(),x.2.1.1.2.2.2.2.2.2.2.2.2.2.1,x.2.1.1.2.2.2.2.2.2.2.2.2.2.2.1,x.2.1.1.2.2.2.2.2.2.2.2.2.2.2.2.1,()),(x.2.1.2.1.1,x.2.1.2.1.2.1,x.2.1.2.1.2.2.1,(),x.2.1.2.1.2.2.2.2.1,x.2.1.2.1.2.2.2.2.2.1,x.2.1.2.1.2.2.2.2.2.2.1,x.2.1.2.1.2.2.2.2.2.2.2.1,x.2.1.2.1.2.2.2.2.2.2.2.2.1,(),x.2.1.2.1.2.2.2.2.2.2.2.2.2.2.1,x.2.1.2.1.2.2.2.2.2.2.2.2.2.2.2.1,x.2.1.2.1.2.2.2.2.2.2.2.2.2.2.2.2.1,()),()),(x.2.2.1,x.2.2.2.1,()))
def yvq:Code:=(zdI ygN 64 120).getD .skip
theorem yGa:zdI ygN 64 30=some (.block 0 (.loop yvq)):=by kernel_rfl
theorem yHx (x:(yax).X):zg7 ⟨ymb,37,yw6⟩ 0 yvq 120 yax ydH ydS x=yZ x:=by kernel_rfl
def yt5 (x:(ydO).X):Nat:=(fun (u0:Int) (u1:Int) (u2:Int) (u3:Int) (u4:Int) (u5:Int) (u6:Int) (u7:Int) (u8:Int) (u9:Bool) (u10:Bool) (u11:Int) (u12:Int) (u13:Int) (u14:Int) (u15:Int) (u16:Int) (u17:Int) (u18:Int) (u19:Int) (u20:Bool) (u21:Bool) (u22:List dM) (u23:List dW)=>18446744073709551616) x.2.1.1.1 x.2.1.1.2.1 x.2.1.1.2.2.1 x.2.1.1.2.2.2.2.1 x.2.1.1.2.2.2.2.2.1 x.2.1.1.2.2.2.2.2.2.1 x.2.1.1.2.2.2.2.2.2.2.1 x.2.1.1.2.2.2.2.2.2.2.2.1 x.2.1.1.2.2.2.2.2.2.2.2.2.2.1 x.2.1.1.2.2.2.2.2.2.2.2.2.2.2.1 x.2.1.1.2.2.2.2.2.2.2.2.2.2.2.2.1 x.2.1.2.1.1 x.2.1.2.1.2.1 x.2.1.2.1.2.2.1 x.2.1.2.1.2.2.2.2.1 x.2.1.2.1.2.2.2.2.2.1 x.2.1.2.1.2.2.2.2.2.2.1 x.2.1.2.1.2.2.2.2.2.2.2.1 x.2.1.2.1.2.2.2.2.2.2.2.2.1 x.2.1.2.1.2.2.2.2.2.2.2.2.2.2.1 x.2.1.2.1.2.2.2.2.2.2.2.2.2.2.2.1 x.2.1.2.1.2.2.2.2.2.2.2.2.2.2.2.2.1 x.2.2.1 x.2.2.2.1
def yns (x:(ydO).X):Option ((ydH).X ⊕ (ydS).X):=zr yZ (yt5 x) (ytS x)
def yum:Seg:=⟨ydO,ydH,ydS,yns⟩
def yw7:Nat→Option Seg:=fun q=>bif Nat.beq q 30 then some yum else yw6 q
theorem yGM:FrOk Tryz.prog ⟨ymb,37,yw7⟩ ygN:=(yGL).loop (sg:=yum) yax ytS (by decide) yGa yZ yt5 (by decide) (fun _=>rfl) (fun x r _ h=>h) yHx
abbrev yee:List Par:= [.rd tA]
abbrev ymv:List OT:= [⟨false,tA,(.pr .fz (.pr (.pr .fz .fz) (.pr (.ow (.pr (.ow .fz) (.pr (.ow (.pr .fz .fz)) (.pr .fz (.ow .fz))))) (.pr .fz (.pr .fz (.pr .fz (.pr .fz (.pr .fz (.pr (.ow (.pr .fz .fz)) (.pr .fz (.pr .fz .fz)))))))))))⟩,⟨false,tI,.fz⟩]
def yiX (a0:dA):Option (ResD ymv×MutD yee) :=
  let r1:=yn4 a0
  bif (r1.2 !=0) then
    some ((r1.1,r1.2,()),())
  else
    zjw (yns ((((),()),((),()),()),((0,0,0,(),0,0,0,0,0,(),0,false,false,()),(r1.1.1,r1.1.2.1.1,r1.1.2.1.2,(),r1.1.2.2.2.1,r1.1.2.2.2.2.1,r1.1.2.2.2.2.2.1,r1.1.2.2.2.2.2.2.1,r1.1.2.2.2.2.2.2.2.1,(),r1.1.2.2.2.2.2.2.2.2.2.1,r1.1.2.2.2.2.2.2.2.2.2.2.1,r1.1.2.2.2.2.2.2.2.2.2.2.2,()),()),(r1.1.2.2.1,r1.1.2.2.2.2.2.2.2.2.1,()))) (fun y3 =>
      let r5:=ytl (y3.2.1.2.1.1,(y3.2.1.2.1.2.1,y3.2.1.2.1.2.2.1),y3.2.2.1,y3.2.1.2.1.2.2.2.2.1,y3.2.1.2.1.2.2.2.2.2.1,y3.2.1.2.1.2.2.2.2.2.2.1,y3.2.1.2.1.2.2.2.2.2.2.2.1,y3.2.1.2.1.2.2.2.2.2.2.2.2.1,y3.2.2.2.1,y3.2.1.2.1.2.2.2.2.2.2.2.2.2.2.1,y3.2.1.2.1.2.2.2.2.2.2.2.2.2.2.2.1,y3.2.1.2.1.2.2.2.2.2.2.2.2.2.2.2.2.1)
      some ((r5.1,r5.2,()),())) (fun y3 =>
      some (((y3.2.1.1.1,(y3.2.1.1.2.1,y3.2.1.1.2.2.1),y3.2.2.1,y3.2.1.1.2.2.2.2.1,y3.2.1.1.2.2.2.2.2.1,y3.2.1.1.2.2.2.2.2.2.1,y3.2.1.1.2.2.2.2.2.2.2.1,y3.2.1.1.2.2.2.2.2.2.2.2.1,y3.2.2.2.1,y3.2.1.1.2.2.2.2.2.2.2.2.2.2.1,y3.2.1.1.2.2.2.2.2.2.2.2.2.2.2.1,y3.2.1.1.2.2.2.2.2.2.2.2.2.2.2.2.1),y3.1.2.1.1,()),()))
theorem yNE (x:InD yee):zjH ⟨ymb,37,yw7⟩ Tryz.f33.results.toList ygN yee ymv x=yiX x.1:=by kernel_rfl
theorem yJi:ConOk Tryz.prog 33 ⟨yee,ymv,fun x=>yiX x.1⟩:=zkh (yGM) Tryz.func33 (by kernel_rfl) (by kernel_rfl) Tryz.ntmps33.symm (by decide) (fun x r h=>(yNE x).trans h)
def yhV (a0:dA):dA×Int:=yku a0
theorem yT8: ∀ (n:Nat) (a:dA) (fuel:Nat),(a.2.1.2 - a.2.2.2.2.1).toNat≤n→n < fuel→zr yZ fuel (ygb ye1 a)=some (bif (ye0 n a).2 !=0 then .inr (yE1 (ye0 n a).2 (ye0 n a).1) else .inl (yEU ye1 (ye0 n a).1)):=by
  intro n
  induction n with
  | zero =>
    intro a fuel h hf
    obtain ⟨fuel,rfl⟩: ∃ m,fuel=m+1:=⟨fuel - 1,by omega⟩
    simp only [zr,yZ,ygb,ygc,zkm (show a.2.1.2≤a.2.2.2.2.1 by omega),cond_false]
    rfl
  | succ n ih =>
    intro a fuel h hf
    obtain ⟨fuel,rfl⟩: ∃ m,fuel=m+1:=⟨fuel - 1,by omega⟩
    cases hS:ltb a.2.2.2.2.1 a.2.1.2
    · rw [yVn hS]
      simp only [zr,yZ,ygb,ygc,hS,cond_false]
      rfl
    · unfold ye0
      rw [hS,cond_true]
      simp only [zr,yZ,ygb,ygc,hS,cond_true,zkV,yfX]
      cases hc:((yB a).2 !=0)
      · obtain ⟨_,h1,h2,h3⟩:=ySu (bne_eq_false_iff_eq.1 hc)
        exact ih (yB a).1 fuel (by rw [h2,h3]; omega) (by omega)
      · simp only [hc,cond_true]
theorem yLS (a0:dA) (hk:zi9 yee (a0,())):yiX a0=(fun n=>some ((n.1,n.2,()),())) (yhV a0):=by
  unfold yiX yhV yku
  simp only [yn4]
  cases hc:((yw a0).2 !=0)
  · obtain ⟨h1,h2,h3⟩:=yPZ (bne_eq_false_iff_eq.1 hc)
    have hg:=yam.1 h3
    have hl:=yT8 8 (yw a0).1 18446744073709551616 (by rw [h1,h2]; omega) (by omega)
    simp only [cond_false]
    refine (congrArg (fun z=>zjw z _ _) (show yns (yEZ ye1 (yw a0).1)=_ from hl)).trans ?_
    cases ((ye0 8 (yw a0).1).2 !=0)<;>rfl
  · rfl
def yxA:Con:=⟨yee,ymv,fun x=>(fun n=>some ((n.1,n.2,()),())) (yhV x.1)⟩
theorem yMt:ConOk Tryz.prog 33 yxA:=(yJi).mono (fun x r hk h=>(yLS x.1 hk).trans h)
end
section
def yD4:Code:=(Tryz.f114.body).getD .skip
def yEl:Env:=zki TT [] []
theorem yKC:FrOk Tryz.prog ⟨yEl,15,fun _=>none⟩ yD4:=zkp yb yc trivial
def yM1:Nat→Option Seg:=fun _=>none
abbrev ylf:List Par:= [.rd tI,.rd tI,.rd tI]
abbrev yqM:List OT:= [⟨false,tB,.fz⟩]
def ytv (a0:Int) (a1:Int) (a2:Int):Option (ResD yqM×MutD ylf) :=
  bif (leb a1 a0) then
    some (((leb a0 a2),()),())
  else
    some ((false,()),())
theorem ySK (x:InD ylf):zjH ⟨yEl,15,yM1⟩ Tryz.f114.results.toList yD4 ylf yqM x=ytv x.1 x.2.1 x.2.2.1:=by kernel_rfl
theorem yO5:ConOk Tryz.prog 114 ⟨ylf,yqM,fun x=>ytv x.1 x.2.1 x.2.2.1⟩:=zkh (yKC) Tryz.func114 (by kernel_rfl) (by kernel_rfl) Tryz.ntmps114.symm (by decide) (fun x r h=>(ySK x).trans h)
def ye (a0:Int) (a1:Int) (a2:Int):Bool :=
  bif (leb a1 a0) then
    (leb a0 a2)
  else
    false
def yo:Con:=⟨ylf,yqM,fun x=>(fun n=>some ((n,()),())) (ye x.1 x.2.1 x.2.2.1)⟩
theorem yQ5 (a0:Int) (a1:Int) (a2:Int):ytv a0 a1 a2=(fun n=>some ((n,()),())) (ye a0 a1 a2):=zkS (p:=fun (n:Bool)=>((n,()),())) (zkx (p:=fun (n:Bool)=>((n,()),())) rfl rfl)
theorem yF:ConOk Tryz.prog 114 yo:=(yO5).mono (fun x r _ h=>(yQ5 x.1 x.2.1 x.2.2.1).trans h)
theorem yY (a b c:Int):ye a b c=ya a b c:=by kernel_rfl
end
section
def yFd:Code:=(Tryz.f129.body).getD .skip
def yFE:Env:=zki TT [(114,yo)] []
theorem yNP:FrOk Tryz.prog ⟨yFE,11,fun _=>none⟩ yFd:=zkp yb yc ⟨yF,trivial⟩
def yP4:Nat→Option Seg:=fun _=>none
abbrev ynu:List Par:= [.rd tG]
abbrev ysx:List OT:= [⟨false,tB,.fz⟩]
def yuH (a0:dG):Option (ResD ysx×MutD ynu) :=
  let r1:=ye a0.1 3 5
  bif r1 then
    let r2:=ye a0.2 1 8
    some ((r2,()),())
  else
    some ((false,()),())
theorem yUk (x:InD ynu):zjH ⟨yFE,11,yP4⟩ Tryz.f129.results.toList yFd ynu ysx x=yuH x.1:=by kernel_rfl
theorem yRu:ConOk Tryz.prog 129 ⟨ynu,ysx,fun x=>yuH x.1⟩:=zkh (yNP) Tryz.func129 (by kernel_rfl) (by kernel_rfl) Tryz.ntmps129.symm (by decide) (fun x r h=>(yUk x).trans h)
def ydT (a0:dG):Bool :=
  let r1:=ye a0.1 3 5
  bif r1 then
    let r2:=ye a0.2 1 8
    r2
  else
    false
def yoV:Con:=⟨ynu,ysx,fun x=>(fun n=>some ((n,()),())) (ydT x.1)⟩
theorem yTe (a0:dG):yuH a0=(fun n=>some ((n,()),())) (ydT a0):=zkS (p:=fun (n:Bool)=>((n,()),())) (zkx (p:=fun (n:Bool)=>((n,()),())) rfl rfl)
theorem ywz:ConOk Tryz.prog 129 yoV:=(yRu).mono (fun x r _ h=>(yTe x.1).trans h)
theorem yOu (a:Int×Int):ydT a=yg a:=by kernel_rfl
end
section
def yD3:Code:=(Tryz.f130.body).getD .skip
def yEk:Env:=zki TT [(114,yo)] []
theorem yKB:FrOk Tryz.prog ⟨yEk,26,fun _=>none⟩ yD3:=zkp yb yc ⟨yF,trivial⟩
def yM0:Nat→Option Seg:=fun _=>none
abbrev yle:List Par:= [.rd tG,.rd tI,.rd tI]
abbrev yqL:List OT:= [⟨false,tB,.fz⟩]
def ytu (a0:dG) (a1:Int) (a2:Int):Option (ResD yqL×MutD yle) :=
  let r1:=ye a1 (-1) (IntKind.i64.wrap (a0.1 - 1))
  bif r1 then
    let r2:=ye a2 0 a0.2
    bif r2 then
      bif (!(a2==0)) then
        some (((a1 !=(-1)),()),())
      else
        some ((true,()),())
    else
      some ((false,()),())
  else
    some ((false,()),())
theorem ySJ (x:InD yle):zjH ⟨yEk,26,yM0⟩ Tryz.f130.results.toList yD3 yle yqL x=ytu x.1 x.2.1 x.2.2.1:=by kernel_rfl
theorem yO4:ConOk Tryz.prog 130 ⟨yle,yqL,fun x=>ytu x.1 x.2.1 x.2.2.1⟩:=zkh (yKB) Tryz.func130 (by kernel_rfl) (by kernel_rfl) Tryz.ntmps130.symm (by decide) (fun x r h=>(ySJ x).trans h)
def yev (a0:dG) (a1:Int) (a2:Int):Bool :=
  let r1:=ye a1 (-1) (IntKind.i64.wrap (a0.1 - 1))
  bif r1 then
    let r2:=ye a2 0 a0.2
    bif r2 then
      bif (!(a2==0)) then
        (a1 !=(-1))
      else
        true
    else
      false
  else
    false
def ys5:Con:=⟨yle,yqL,fun x=>(fun n=>some ((n,()),())) (yev x.1 x.2.1 x.2.2.1)⟩
theorem yQ4 (a0:dG) (a1:Int) (a2:Int):ytu a0 a1 a2=(fun n=>some ((n,()),())) (yev a0 a1 a2):=zkS (p:=fun (n:Bool)=>((n,()),())) (zkx (p:=fun (n:Bool)=>((n,()),())) (zkx (p:=fun (n:Bool)=>((n,()),())) (zkx (p:=fun (n:Bool)=>((n,()),())) rfl rfl) rfl) rfl)
theorem yDv:ConOk Tryz.prog 130 ys5:=(yO4).mono (fun x r _ h=>(yQ4 x.1 x.2.1 x.2.2.1).trans h)
end
section
def yD2:Code:=(Tryz.f93.body).getD .skip
def yEj:Env:=zki TT [(114,yo)] []
theorem yKA:FrOk Tryz.prog ⟨yEj,5,fun _=>none⟩ yD2:=zkp yb yc ⟨yF,trivial⟩
def yMZ:Nat→Option Seg:=fun _=>none
abbrev yld:List Par:= [.rd tI]
abbrev yqK:List OT:= [⟨false,tB,.fz⟩]
def ytt (a0:Int):Option (ResD yqK×MutD yld) :=
  let r1:=ye a0 0 65535
  some ((r1,()),())
theorem ySI (x:InD yld):zjH ⟨yEj,5,yMZ⟩ Tryz.f93.results.toList yD2 yld yqK x=ytt x.1:=by kernel_rfl
theorem yO3:ConOk Tryz.prog 93 ⟨yld,yqK,fun x=>ytt x.1⟩:=zkh (yKA) Tryz.func93 (by kernel_rfl) (by kernel_rfl) Tryz.ntmps93.symm (by decide) (fun x r h=>(ySI x).trans h)
def yN (a0:Int):Bool :=
  let r1:=ye a0 0 65535
  r1
def yBN:Con:=⟨yld,yqK,fun x=>(fun n=>some ((n,()),())) (yN x.1)⟩
theorem yQ3 (a0:Int):ytt a0=(fun n=>some ((n,()),())) (yN a0):=zkS (p:=fun (n:Bool)=>((n,()),())) rfl
theorem yR0:ConOk Tryz.prog 93 yBN:=(yO3).mono (fun x r _ h=>(yQ3 x.1).trans h)
end
section
def yyL:Code:=(Tryz.f100.body).getD .skip
def yzj:Env:=zki TT [(114,yo),(129,yoV)] []
theorem yEL:FrOk Tryz.prog ⟨yzj,14,fun _=>none⟩ yyL:=zkp yb yc ⟨yF,ywz,trivial⟩
def yFB:Nat→Option Seg:=fun _=>none
abbrev yft:List Par:= [.rd tG,.rd tI]
abbrev ykc:List OT:= [⟨false,tB,.fz⟩]
def yn8 (a0:dG) (a1:Int):Option (ResD ykc×MutD yft) :=
  let r1:=ydT a0
  bif r1 then
    let r2:=ye a1 0 (IntKind.i64.wrap (a0.2 - 1))
    some ((r2,()),())
  else
    some ((false,()),())
theorem yKo (x:InD yft):zjH ⟨yzj,14,yFB⟩ Tryz.f100.results.toList yyL yft ykc x=yn8 x.1 x.2.1:=by kernel_rfl
theorem yHf:ConOk Tryz.prog 100 ⟨yft,ykc,fun x=>yn8 x.1 x.2.1⟩:=zkh (yEL) Tryz.func100 (by kernel_rfl) (by kernel_rfl) Tryz.ntmps100.symm (by decide) (fun x r h=>(yKo x).trans h)
def ybL (a0:dG) (a1:Int):Bool :=
  let r1:=ydT a0
  bif r1 then
    let r2:=ye a1 0 (IntKind.i64.wrap (a0.2 - 1))
    r2
  else
    false
def ynM:Con:=⟨yft,ykc,fun x=>(fun n=>some ((n,()),())) (ybL x.1 x.2.1)⟩
theorem yIZ (a0:dG) (a1:Int):yn8 a0 a1=(fun n=>some ((n,()),())) (ybL a0 a1):=zkS (p:=fun (n:Bool)=>((n,()),())) (zkx (p:=fun (n:Bool)=>((n,()),())) rfl rfl)
theorem yyg:ConOk Tryz.prog 100 ynM:=(yHf).mono (fun x r _ h=>(yIZ x.1 x.2.1).trans h)
theorem yVf (g:dG) (s:Int):ybL g s=ytD g s:=by
  unfold ybL ytD
  rw [yOu]
  cases hg:yg g
  · rfl
  have:=yam.1 hg
  rw [yY,ykx,wr (by omega) (by omega)]; rfl
end
end
end Go.Tf
