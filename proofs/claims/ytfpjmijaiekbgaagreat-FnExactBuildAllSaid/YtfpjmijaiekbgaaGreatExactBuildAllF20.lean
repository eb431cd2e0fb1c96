/- Functions of the program, and what they come to. -/
import Derived.Test.YtfpjmijaiekbgaaGreatExactBuildAllF19
namespace Go.Tf
noncomputable section
open Go.Proofs
set_option synthInstance.maxHeartbeats 400000
set_option synthInstance.maxSize 10000
set_option linter.unusedVariables false
set_option linter.unusedSimpArgs false
set_option maxRecDepth 100000
section
def yFf:Code:=(Tryz.f106.body).getD .skip
def yFG:Env:=zki TT [(51,yjF),(76,ykv),(123,ys4),(133,yrs),(172,yiI),(182,yBL)] []
theorem yNV:FrOk Tryz.prog ⟨yFG,55,fun _=>none⟩ yFf:=zkp yb yc ⟨yq8,ytm,yDu,yB2,yrF,yRY,trivial⟩
def yP6:Nat→Option Seg:=fun _=>none
abbrev yjj:List Par:= [.rd tA]
abbrev ysA:List OT:= [⟨false,tA,(.pr .fz (.pr (.pr .fz .fz) (.pr (.ow (.pr (.ow (.ow .fz)) (.pr (.ow (.pr .fz (.ow .fz))) (.pr .fz (.ow .fz))))) (.pr .fz (.pr .fz (.pr .fz (.pr .fz (.pr .fz (.pr (.ow (.pr .fz (.ow .fz))) (.pr .fz (.pr .fz .fz)))))))))))⟩,⟨false,tI,.fz⟩]
def ypc (a0:dA):Option (ResD ysA×MutD yjj) :=
  let r1:=yaI a0
  let r2:=yaA a0
  bif (!r2) then
    some ((r1,1,()),())
  else
    bif a0.2.2.2.2.2.2.2.2.2.2.1 then
      some ((r1,6,()),())
    else
      bif (!(a0.2.2.2.1==(-1))) then
        bif (inb a0.2.2.2.1 a0.2.2.1.length) then
          bif (!((((nth a0.2.2.1 a0.2.2.2.1 ([],[],false,[])).2).2).1)) then
            some ((r1,2,()),())
          else
            bif a0.2.2.2.2.2.2.2.2.2.2.2 then
              some ((r1,5,()),())
            else
              bif (leb 59990 a0.2.2.2.2.2.2.2.1) then
                some ((r1,7,()),())
              else
                let r3:=yfm a0.2.1
                let r4:=yls r3
                bif (inb a0.2.2.2.1 r1.2.2.1.length) then
                  bnd (yI (r1.1,r1.2.1,(r1.2.2.1.set (a0.2.2.2.1).toNat r4),r1.2.2.2.1,0,r1.2.2.2.2.2)) fun r5 =>
                  let r6:=yeu r5.1.1
                  some ((r5.2.1,r6,()),())
                else none
        else none
      else
        some ((r1,2,()),())
theorem yUn (x:InD yjj):zjH ⟨yFG,55,yP6⟩ Tryz.f106.results.toList yFf yjj ysA x=ypc x.1:=by kernel_rfl
theorem yRx:ConOk Tryz.prog 106 ⟨yjj,ysA,fun x=>ypc x.1⟩:=zkh (yNV) Tryz.func106 (by kernel_rfl) (by kernel_rfl) Tryz.ntmps106.symm (by decide) (fun x r h=>(yUn x).trans h)
def yn0 (a0:dA):dA×Int:=yw a0
theorem yTh (a0:dA) (hk:zi9 yjj (a0,())):ypc a0=(fun n=>some ((n.1,n.2,()),())) (yn0 a0):=by
  unfold ypc yn0 yw
  simp only [yaI,yaA]
  cases ha:yr a0
  · rfl
  have hg:=yam.1 (ye6 ha)
  cases hd:yd a0
  · rw [show a0.2.2.2.2.2.2.2.2.2.2.1=false from hd]
    cases hl:(a0.2.2.2.1== -1)
    · have hi:=yuy ha (beq_eq_false_iff_ne.1 hl)
      have hm:yI (yD a0)=some ((!(yd (yz (yD a0))),()),(yz (yD a0),())):=yrG (yD a0) (by unfold ycA; rw [show yd (yD a0)=yd a0 from rfl,hd]; rfl)
      simp only [yfm,wr (show -9223372036854775808≤6+a0.2.1.2 by omega) (by omega),hi,yls]
      rw [show yI (a0.1,a0.2.1,a0.2.2.1.set a0.2.2.2.1.toNat (yv5 (6+a0.2.1.2)),a0.2.2.2.1,0,a0.2.2.2.2.2)=_ from hm]
      simp only [zky,yeu]
      cases (nth a0.2.2.1 a0.2.2.2.1 yf).2.2.1<;>cases a0.2.2.2.2.2.2.2.2.2.2.2<;>cases leb 59990 a0.2.2.2.2.2.2.2.1<;>first | rfl | (cases yd (yz (yD a0))<;>rfl)
    · rfl
  · rw [show a0.2.2.2.2.2.2.2.2.2.2.1=true from hd]; rfl
def yCU:Con:=⟨yjj,ysA,fun x=>(fun n=>some ((n.1,n.2,()),())) (yn0 x.1)⟩
theorem yTN:ConOk Tryz.prog 106 yCU:=(yRx).mono (fun x r hk h=>(yTh x.1 hk).trans h)
end
section
def yyI:Code:=(Tryz.f88.body).getD .skip
def yzg:Env:=zki TT [(168,ypF),(172,yiI)] []
theorem yEI:FrOk Tryz.prog ⟨yzg,15,fun _=>none⟩ yyI:=zkp yb yc ⟨yAr,yrF,trivial⟩
def yFy:Nat→Option Seg:=fun _=>none
abbrev ybB:List Par:= [.pt tA (.pr .fz (.pr (.pr .fz .fz) (.pr (.ow (.pr (.ow (.ow .fz)) (.pr (.ow (.pr .fz (.ow .fz))) (.pr .fz (.ow .fz))))) (.pr .fz (.pr .fz (.pr .fz (.pr .fz (.pr .fz (.pr (.ow (.pr .fz (.ow .fz))) (.pr .fz (.pr .fz .fz)))))))))))]
abbrev yfL:List OT:= [⟨false,tB,.fz⟩]
def yh2 (a0:dA):Option (ResD yfL×MutD ybB) :=
  bnd (yhZ a0) fun r1 =>
  bif (!r1.1.1) then
    some ((false,()),(r1.2.1,()))
  else
    bnd (yI (r1.2.1.1,r1.2.1.2.1,r1.2.1.2.2.1,r1.2.1.2.2.2.1,r1.2.1.2.2.2.2.1,r1.2.1.2.2.2.2.2.1,r1.2.1.2.2.2.2.2.1,r1.2.1.2.2.2.2.2.2.2)) fun r2 =>
    some ((r2.1.1,()),(r2.2.1,()))
theorem yKl (x:InD ybB):zjH ⟨yzg,15,yFy⟩ Tryz.f88.results.toList yyI ybB yfL x=yh2 x.1:=by kernel_rfl
theorem yHc:ConOk Tryz.prog 88 ⟨ybB,yfL,fun x=>yh2 x.1⟩:=zkh (yEI) Tryz.func88 (by kernel_rfl) (by kernel_rfl) Tryz.ntmps88.symm (by decide) (fun x r h=>(yKl x).trans h)
def ykz (a0:dA):Bool×dA:=(!(yd (yl a0)),yl a0)
def ykD (a0:dA):Bool:= !(yd a0)
theorem yIW (a0:dA) (hk:zi9 ybB (a0,())) (hq:ykD a0=true):yh2 a0=(fun n=>some ((n.1,()),(n.2,()))) (ykz a0):=by
  unfold yh2 ykz yl
  rw [yAt a0 hq]
  simp only [zky,yhR]
  cases hd:yd (yL a0)
  · have hm:yI (yqq (yL a0))=some ((!(yd (yz (yqq (yL a0)))),()),(yz (yqq (yL a0)),())):=yrG (yqq (yL a0)) (by unfold ycA; rw [show yd (yqq (yL a0))=yd (yL a0) from rfl,hd]; rfl)
    exact (congrArg (fun z=>bnd z _) hm).trans rfl
  · simp only [Bool.not_true,Bool.not_false,cond_true]
    rw [hd]; rfl
def ykA (a0:dA):Option (ResD yfL×MutD ybB):=bif ykD a0 then (fun n=>some ((n.1,()),(n.2,()))) (ykz a0) else none
theorem yJu (a0:dA) (h:ykD a0=true):ykA a0=(fun n=>some ((n.1,()),(n.2,()))) (ykz a0):=by unfold ykA; rw [h]; rfl
def yvs:Con:=⟨ybB,yfL,fun x=>ykA x.1⟩
theorem yJo:ConOk Tryz.prog 88 yvs:=(yHc).mono (fun x r hk h=>zkW h (fun hq=>yIW x.1 hk hq))
end
section
def yFc:Code:=(Tryz.f107.body).getD .skip
def yFD:Env:=zki TT [(51,yjF),(76,ykv),(88,yvs),(123,ys4),(172,yiI)] []
theorem yNM:FrOk Tryz.prog ⟨yFD,57,fun _=>none⟩ yFc:=zkp yb yc ⟨yq8,ytm,yJo,yDu,yrF,trivial⟩
def yP3:Nat→Option Seg:=fun _=>none
abbrev yjg:List Par:= [.rd tA]
abbrev ysv:List OT:= [⟨false,tA,(.pr .fz (.pr (.pr .fz .fz) (.pr (.ow (.pr (.ow (.ow .fz)) (.pr (.ow (.pr .fz (.ow .fz))) (.pr .fz (.ow .fz))))) (.pr .fz (.pr .fz (.pr .fz (.pr .fz (.pr .fz (.pr (.ow (.pr .fz (.ow .fz))) (.pr .fz (.pr .fz .fz)))))))))))⟩,⟨false,tI,.fz⟩]
def yo9 (a0:dA):Option (ResD ysv×MutD yjg) :=
  let r1:=yaI a0
  let r2:=yaA a0
  bif (!r2) then
    some ((r1,1,()),())
  else
    bif a0.2.2.2.2.2.2.2.2.2.2.1 then
      some ((r1,6,()),())
    else
      bif (!(a0.2.2.2.1==(-1))) then
        bif (inb a0.2.2.2.1 a0.2.2.1.length) then
          bif (!((((nth a0.2.2.1 a0.2.2.2.1 ([],[],false,[])).2).2).1)) then
            bif (ltb a0.2.2.2.2.1 a0.2.1.2) then
              some ((r1,2,()),())
            else
              bif a0.2.2.2.2.2.2.2.2.2.2.2 then
                some ((r1,5,()),())
              else
                bif (leb 59990 a0.2.2.2.2.2.2.2.1) then
                  some ((r1,7,()),())
                else
                  bnd (ykA r1) fun r3 =>
                  bif (!r3.1.1) then
                    some ((r3.2.1,6,()),())
                  else
                    bnd (yI (r3.2.1.1,r3.2.1.2.1,r3.2.1.2.2.1,(-1),0,r3.2.1.2.2.2.2.2)) fun r4 =>
                    let r5:=yeu r4.1.1
                    some ((r4.2.1,r5,()),())
          else
            some ((r1,2,()),())
        else none
      else
        some ((r1,2,()),())
theorem yUi (x:InD yjg):zjH ⟨yFD,57,yP3⟩ Tryz.f107.results.toList yFc yjg ysv x=yo9 x.1:=by kernel_rfl
theorem yRs:ConOk Tryz.prog 107 ⟨yjg,ysv,fun x=>yo9 x.1⟩:=zkh (yNM) Tryz.func107 (by kernel_rfl) (by kernel_rfl) Tryz.ntmps107.symm (by decide) (fun x r h=>(yUi x).trans h)
def ynZ (a0:dA):dA×Int:=ysZ a0
theorem yTc (a0:dA) (hk:zi9 yjg (a0,())):yo9 a0=(fun n=>some ((n.1,n.2,()),())) (ynZ a0):=by
  unfold yo9 ynZ ysZ
  simp only [yaI,yaA]
  cases ha:yr a0
  · rfl
  cases hd:yd a0
  · rw [yJu a0 (by unfold ykD; rw [hd]; rfl),show a0.2.2.2.2.2.2.2.2.2.2.1=false from hd]
    cases hl:(a0.2.2.2.1== -1)
    · rw [yuy ha (beq_eq_false_iff_ne.1 hl)]
      have key:(bnd (some ((!(yd (yl a0)),()),(yl a0,()))) fun r3=>bif !r3.1.1 then some ((r3.2.1,6,()),()) else bnd (yI (yaz r3.2.1)) fun r4=>some ((r4.2.1,yeu r4.1.1,()),()))=some (((yfQ a0).1,(yfQ a0).2,()),()):=by
        simp only [zky]
        unfold yfQ yeu
        cases hc:yd (yl a0)
        · have hm:yI (yaz (yl a0))=some ((!(yd (yz (yaz (yl a0)))),()),(yz (yaz (yl a0)),())):=yrG _ (by unfold ycA; rw [show yd (yaz (yl a0))=yd (yl a0) from rfl,hc]; rfl)
          rw [hm]
          simp only [zky]
          cases yd (yz (yaz (yl a0)))<;>rfl
        · rfl
      cases (nth a0.2.2.1 a0.2.2.2.1 yf).2.2.1<;>cases ltb a0.2.2.2.2.1 a0.2.1.2<;>cases a0.2.2.2.2.2.2.2.2.2.2.2<;>cases leb 59990 a0.2.2.2.2.2.2.2.1<;>first | rfl | exact key
    · rfl
  · rw [show a0.2.2.2.2.2.2.2.2.2.2.1=true from hd]; rfl
def yCT:Con:=⟨yjg,ysv,fun x=>(fun n=>some ((n.1,n.2,()),())) (ynZ x.1)⟩
theorem yTM:ConOk Tryz.prog 107 yCT:=(yRs).mono (fun x r hk h=>(yTc x.1 hk).trans h)
end
section
def ygE:Code:=(Tryz.f34.body).getD .skip
def yl2:Env:=zki TT [(23,yvt),(106,yCU),(107,yCT)] []
theorem yGq:FrOk Tryz.prog ⟨yl2,34,fun _=>none⟩ ygE:=zkp yb yc ⟨yJp,yTN,yTM,trivial⟩
def ywO:Nat→Option Seg:=fun _=>none
def yau:Shape:=⟨[(2,false,[.ptr 64 0]),(4,false,[.ptr 4416 0]),(5,false,[.int .i64])],[(64,[.int .i64,.int .i64,.int .i64,.nil,.int .i64,.int .i64,.int .i64,.int .i64,.int .i64,.nil,.int .i64,.bool,.bool]),(4416,[.int .i64,.int .i64,.int .i64,.at 800000000,.int .i64,.int .i64,.int .i64,.int .i64,.int .i64,.at 800000001,.int .i64,.bool,.bool])],[(800000000,tM,(.pr (.ow (.ow .fz)) (.pr (.ow (.pr .fz (.ow .fz))) (.pr .fz (.ow .fz))))),(800000001,tW,(.pr .fz (.ow .fz)))]⟩
def ydL:Shape:=⟨[(2,false,[.ptr 64 0]),(4,false,[.ptr 4416 0]),(5,false,[.int .i64])],[(64,[.int .i64,.int .i64,.int .i64,.nil,.int .i64,.int .i64,.int .i64,.int .i64,.int .i64,.nil,.int .i64,.bool,.bool]),(4416,[.int .i64,.int .i64,.int .i64,.at 800000000,.int .i64,.int .i64,.int .i64,.int .i64,.int .i64,.at 800000001,.int .i64,.bool,.bool])],[(800000000,tM,(.pr (.ow (.ow .fz)) (.pr (.ow (.pr .fz (.ow .fz))) (.pr .fz (.ow .fz))))),(800000001,tW,(.pr .fz (.ow .fz)))]⟩
def ydE:Shape:=⟨[(2,false,[.ptr 64 0]),(4,false,[.ptr 4416 0]),(5,false,[.int .i64])],[(64,[.int .i64,.int .i64,.int .i64,.nil,.int .i64,.int .i64,.int .i64,.int .i64,.int .i64,.nil,.int .i64,.bool,.bool]),(4416,[.int .i64,.int .i64,.int .i64,.at 800000000,.int .i64,.int .i64,.int .i64,.int .i64,.int .i64,.at 800000001,.int .i64,.bool,.bool])],[(800000000,tM,(.pr (.ow (.ow .fz)) (.pr (.ow (.pr .fz (.ow .fz))) (.pr .fz (.ow .fz))))),(800000001,tW,(.pr .fz (.ow .fz)))]⟩
def yhw:Shape:=⟨[],[],[]⟩
abbrev ybd (v0:Int) (v1:dA) (v2:dA):(yau).X:=((((),()),((),()),(v0,()),()),((v1.1,v1.2.1.1,v1.2.1.2,(),v1.2.2.2.1,v1.2.2.2.2.1,v1.2.2.2.2.2.1,v1.2.2.2.2.2.2.1,v1.2.2.2.2.2.2.2.1,(),v1.2.2.2.2.2.2.2.2.2.1,v1.2.2.2.2.2.2.2.2.2.2.1,v1.2.2.2.2.2.2.2.2.2.2.2,()),(v2.1,v2.2.1.1,v2.2.1.2,(),v2.2.2.2.1,v2.2.2.2.2.1,v2.2.2.2.2.2.1,v2.2.2.2.2.2.2.1,v2.2.2.2.2.2.2.2.1,(),v2.2.2.2.2.2.2.2.2.2.1,v2.2.2.2.2.2.2.2.2.2.2.1,v2.2.2.2.2.2.2.2.2.2.2.2,()),()),(v2.2.2.1,v2.2.2.2.2.2.2.2.2.1,()))
abbrev yua (v0:Int) (v1:dA) (v2:dA):(ydL).X:=((((),()),((),()),(v0,()),()),((v1.1,v1.2.1.1,v1.2.1.2,(),v1.2.2.2.1,v1.2.2.2.2.1,v1.2.2.2.2.2.1,v1.2.2.2.2.2.2.1,v1.2.2.2.2.2.2.2.1,(),v1.2.2.2.2.2.2.2.2.2.1,v1.2.2.2.2.2.2.2.2.2.2.1,v1.2.2.2.2.2.2.2.2.2.2.2,()),(v2.1,v2.2.1.1,v2.2.1.2,(),v2.2.2.2.1,v2.2.2.2.2.1,v2.2.2.2.2.2.1,v2.2.2.2.2.2.2.1,v2.2.2.2.2.2.2.2.1,(),v2.2.2.2.2.2.2.2.2.2.1,v2.2.2.2.2.2.2.2.2.2.2.1,v2.2.2.2.2.2.2.2.2.2.2.2,()),()),(v2.2.2.1,v2.2.2.2.2.2.2.2.2.1,()))
abbrev yt7 (v0:Int) (v1:dA) (v2:dA):(ydE).X:=((((),()),((),()),(v0,()),()),((v1.1,v1.2.1.1,v1.2.1.2,(),v1.2.2.2.1,v1.2.2.2.2.1,v1.2.2.2.2.2.1,v1.2.2.2.2.2.2.1,v1.2.2.2.2.2.2.2.1,(),v1.2.2.2.2.2.2.2.2.2.1,v1.2.2.2.2.2.2.2.2.2.2.1,v1.2.2.2.2.2.2.2.2.2.2.2,()),(v2.1,v2.2.1.1,v2.2.1.2,(),v2.2.2.2.1,v2.2.2.2.2.1,v2.2.2.2.2.2.1,v2.2.2.2.2.2.2.1,v2.2.2.2.2.2.2.2.1,(),v2.2.2.2.2.2.2.2.2.2.1,v2.2.2.2.2.2.2.2.2.2.2.1,v2.2.2.2.2.2.2.2.2.2.2.2,()),()),(v2.2.2.1,v2.2.2.2.2.2.2.2.2.1,()))
def yc5 (v0:Int) (v1:Int) (v2:Int) (v3:Int) (v4:Int) (v5:Int) (v6:Int) (v7:Int) (v8:Int) (v9:Int) (v10:Bool) (v11:Bool) (v12:Int) (v13:Int) (v14:Int) (v15:Int) (v16:Int) (v17:Int) (v18:Int) (v19:Int) (v20:Int) (v21:Bool) (v22:Bool) (v23:List dM) (v24:List dW):Option ((yau).X ⊕ ((ydE).X ⊕ (yhw).X)) :=
  bif (v0==0) then
    bif (ltb v16 v14) then
      let r3:=yfS (v12,(v13,v14),v23,v15,v16,v17,v18,v19,v24,v20,v21,v22)
      some (.inl ((((),()),((),()),(r3.2,()),()),((v1,v2,v3,(),v4,v5,v6,v7,v8,(),v9,v10,v11,()),(r3.1.1,r3.1.2.1.1,r3.1.2.1.2,(),r3.1.2.2.2.1,r3.1.2.2.2.2.1,r3.1.2.2.2.2.2.1,r3.1.2.2.2.2.2.2.1,r3.1.2.2.2.2.2.2.2.1,(),r3.1.2.2.2.2.2.2.2.2.2.1,r3.1.2.2.2.2.2.2.2.2.2.2.1,r3.1.2.2.2.2.2.2.2.2.2.2.2,()),()),(r3.1.2.2.1,r3.1.2.2.2.2.2.2.2.2.1,())))
    else
      some (.inr (.inl ((((),()),((),()),(v0,()),()),((v1,v2,v3,(),v4,v5,v6,v7,v8,(),v9,v10,v11,()),(v12,v13,v14,(),v15,v16,v17,v18,v19,(),v20,v21,v22,()),()),(v23,v24,()))))
  else
    some (.inr (.inl ((((),()),((),()),(v0,()),()),((v1,v2,v3,(),v4,v5,v6,v7,v8,(),v9,v10,v11,()),(v12,v13,v14,(),v15,v16,v17,v18,v19,(),v20,v21,v22,()),()),(v23,v24,()))))
def yv (x:(yau).X):=yc5 x.1.2.2.1.1 x.2.1.1.1 x.2.1.1.2.1 x.2.1.1.2.2.1 x.2.1.1.2.2.2.2.1 x.2.1.1.2.2.2.2.2.1 x.2.1.1.2.2.2.2.2.2.1 x.2.1.1.2.2.2.2.2.2.2.1 x.2.1.1.2.2.2.2.2.2.2.2.1 x.2.1.1.2.2.2.2.2.2.2.2.2.2.1 x.2.1.1.2.2.2.2.2.2.2.2.2.2.2.1 x.2.1.1.2.2.2.2.2.2.2.2.2.2.2.2.1 x.2.1.2.1.1 x.2.1.2.1.2.1 x.2.1.2.1.2.2.1 x.2.1.2.1.2.2.2.2.1 x.2.1.2.1.2.2.2.2.2.1 x.2.1.2.1.2.2.2.2.2.2.1 x.2.1.2.1.2.2.2.2.2.2.2.1 x.2.1.2.1.2.2.2.2.2.2.2.2.1 x.2.1.2.1.2.2.2.2.2.2.2.2.2.2.1 x.2.1.2.1.2.2.2.2.2.2.2.2.2.2.2.1 x.2.1.2.1.2.2.2.2.2.2.2.2.2.2.2.2.1 x.2.2.1 x.2.2.2.1
def ytJ (x:(ydL).X):(yau).X:=((((),()),((),()),(x.1.2.2.1.1,()),()),((x.2.1.1.1,x.2.1.1.2.1,x.2.1.1.2.2.1,(),x.2.1.1.2.2.2.2.1,x.2.1.1.2.2.2.2.2.1,x.2.1.1.2.2.2.2.2.2.1,x.2.1.1.2.2.2.2.2.2.2.1,x.2.1.1.2.2.2.2.2.2.2.2.1,(),x.2.1.1.2.2.2.2.2.2.2.2.2.2.1,x.2.1.1.2.2.2.2.2.2.2.2.2.2.2.1,x.2.1.1.2.2.2.2.2.2.2.2.2.2.2.2.1,()),(x.2.1.2.1.1,x.2.1.2.1.2.1,x.2.1.2.1.2.2.1,(),x.2.1.2.1.2.2.2.2.1,x.2.1.2.1.2.2.2.2.2.1,x.2.1.2.1.2.2.2.2.2.2.1,x.2.1.2.1.2.2.2.2.2.2.2.1,x.2.1.2.1.2.2.2.2.2.2.2.2.1,(),x.2.1.2.1.2.2.2.2.2.2.2.2.2.2.1,x.2.1.2.1.2.2.2.2.2.2.2.2.2.2.2.1,x.2.1.2.1.2.2.2.2.2.2.2.2.2.2.2.2.1,()),()),(x.2.2.1,x.2.2.2.1,()))
def yvh:Code:=(zdI ygE 64 56).getD .skip
theorem yF1:zdI ygE 64 14=some (.block 0 (.loop yvh)):=by kernel_rfl
theorem yHo (x:(yau).X):zg7 ⟨yl2,34,ywO⟩ 0 yvh 56 yau ydE yhw x=yv x:=by kernel_rfl
def ytW (x:(ydL).X):Nat:=(fun (u0:Int) (u1:Int) (u2:Int) (u3:Int) (u4:Int) (u5:Int) (u6:Int) (u7:Int) (u8:Int) (u9:Int) (u10:Bool) (u11:Bool) (u12:Int) (u13:Int) (u14:Int) (u15:Int) (u16:Int) (u17:Int) (u18:Int) (u19:Int) (u20:Int) (u21:Bool) (u22:Bool) (u23:List dM) (u24:List dW)=>18446744073709551616) x.1.2.2.1.1 x.2.1.1.1 x.2.1.1.2.1 x.2.1.1.2.2.1 x.2.1.1.2.2.2.2.1 x.2.1.1.2.2.2.2.2.1 x.2.1.1.2.2.2.2.2.2.1 x.2.1.1.2.2.2.2.2.2.2.1 x.2.1.1.2.2.2.2.2.2.2.2.1 x.2.1.1.2.2.2.2.2.2.2.2.2.2.1 x.2.1.1.2.2.2.2.2.2.2.2.2.2.2.1 x.2.1.1.2.2.2.2.2.2.2.2.2.2.2.2.1 x.2.1.2.1.1 x.2.1.2.1.2.1 x.2.1.2.1.2.2.1 x.2.1.2.1.2.2.2.2.1 x.2.1.2.1.2.2.2.2.2.1 x.2.1.2.1.2.2.2.2.2.2.1 x.2.1.2.1.2.2.2.2.2.2.2.1 x.2.1.2.1.2.2.2.2.2.2.2.2.1 x.2.1.2.1.2.2.2.2.2.2.2.2.2.2.1 x.2.1.2.1.2.2.2.2.2.2.2.2.2.2.2.1 x.2.1.2.1.2.2.2.2.2.2.2.2.2.2.2.2.1 x.2.2.1 x.2.2.2.1
def ygR (x:(ydL).X):Option ((ydE).X ⊕ (yhw).X):=zr yv (ytW x) (ytJ x)
def yud:Seg:=⟨ydL,ydE,yhw,ygR⟩
def ywP:Nat→Option Seg:=fun q=>bif Nat.beq q 14 then some yud else ywO q
theorem yGr:FrOk Tryz.prog ⟨yl2,34,ywP⟩ ygE:=(yGq).loop (sg:=yud) yau ytJ (by decide) yF1 yv ytW (by decide) (fun _=>rfl) (fun x r _ h=>h) yHo
abbrev yd3:List Par:= [.rd tA]
abbrev ymj:List OT:= [⟨false,tA,(.pr .fz (.pr (.pr .fz .fz) (.pr (.ow (.pr (.ow (.ow .fz)) (.pr (.ow (.pr .fz (.ow .fz))) (.pr .fz (.ow .fz))))) (.pr .fz (.pr .fz (.pr .fz (.pr .fz (.pr .fz (.pr (.ow (.pr .fz (.ow .fz))) (.pr .fz (.pr .fz .fz)))))))))))⟩,⟨false,tI,.fz⟩]
def yiM (a0:dA):Option (ResD ymj×MutD yd3) :=
  let r1:=yn0 a0
  zjw (ygR ((((),()),((),()),(r1.2,()),()),((0,0,0,(),0,0,0,0,0,(),0,false,false,()),(r1.1.1,r1.1.2.1.1,r1.1.2.1.2,(),r1.1.2.2.2.1,r1.1.2.2.2.2.1,r1.1.2.2.2.2.2.1,r1.1.2.2.2.2.2.2.1,r1.1.2.2.2.2.2.2.2.1,(),r1.1.2.2.2.2.2.2.2.2.2.1,r1.1.2.2.2.2.2.2.2.2.2.2.1,r1.1.2.2.2.2.2.2.2.2.2.2.2,()),()),(r1.1.2.2.1,r1.1.2.2.2.2.2.2.2.2.1,()))) (fun y3 =>
    bif (y3.1.2.2.1.1 !=0) then
      some (((y3.2.1.2.1.1,(y3.2.1.2.1.2.1,y3.2.1.2.1.2.2.1),y3.2.2.1,y3.2.1.2.1.2.2.2.2.1,y3.2.1.2.1.2.2.2.2.2.1,y3.2.1.2.1.2.2.2.2.2.2.1,y3.2.1.2.1.2.2.2.2.2.2.2.1,y3.2.1.2.1.2.2.2.2.2.2.2.2.1,y3.2.2.2.1,y3.2.1.2.1.2.2.2.2.2.2.2.2.2.2.1,y3.2.1.2.1.2.2.2.2.2.2.2.2.2.2.2.1,y3.2.1.2.1.2.2.2.2.2.2.2.2.2.2.2.2.1),y3.1.2.2.1.1,()),())
    else
      let r5:=ynZ (y3.2.1.2.1.1,(y3.2.1.2.1.2.1,y3.2.1.2.1.2.2.1),y3.2.2.1,y3.2.1.2.1.2.2.2.2.1,y3.2.1.2.1.2.2.2.2.2.1,y3.2.1.2.1.2.2.2.2.2.2.1,y3.2.1.2.1.2.2.2.2.2.2.2.1,y3.2.1.2.1.2.2.2.2.2.2.2.2.1,y3.2.2.2.1,y3.2.1.2.1.2.2.2.2.2.2.2.2.2.2.1,y3.2.1.2.1.2.2.2.2.2.2.2.2.2.2.2.1,y3.2.1.2.1.2.2.2.2.2.2.2.2.2.2.2.2.1)
      some ((r5.1,r5.2,()),())) (fun y3 =>
    none)
theorem yNs (x:InD yd3):zjH ⟨yl2,34,ywP⟩ Tryz.f34.results.toList ygE yd3 ymj x=yiM x.1:=by kernel_rfl
theorem yI6:ConOk Tryz.prog 34 ⟨yd3,ymj,fun x=>yiM x.1⟩:=zkh (yGr) Tryz.func34 (by kernel_rfl) (by kernel_rfl) Tryz.ntmps34.symm (by decide) (fun x r h=>(yNs x).trans h)
def yen (a0:dA):dA×Int:=yku a0
theorem yEx (c:Int) (a:dA) (fuel:Nat) (hc:(c==0)=false) (hf:0 < fuel):zr yv fuel (ybd c ye1 a)=some (.inl (yt7 c ye1 a)):=by
  obtain ⟨fuel,rfl⟩: ∃ m,fuel=m+1:=⟨fuel - 1,by omega⟩
  simp only [zr,yv,ybd,yc5,hc,cond_false]
theorem yS9: ∀ (n:Nat) (a:dA) (fuel:Nat),(a.2.1.2 - a.2.2.2.2.1).toNat≤n→n+1 < fuel→zr yv fuel (ybd 0 ye1 a)=some (.inl (yt7 (ye0 n a).2 ye1 (ye0 n a).1)):=by
  intro n
  induction n with
  | zero =>
    intro a fuel h hf
    obtain ⟨fuel,rfl⟩: ∃ m,fuel=m+1:=⟨fuel - 1,by omega⟩
    simp only [zr,yv,ybd,yc5,beq_self_eq_true,cond_true,zkm (show a.2.1.2≤a.2.2.2.2.1 by omega),cond_false]
    rfl
  | succ n ih =>
    intro a fuel h hf
    obtain ⟨fuel,rfl⟩: ∃ m,fuel=m+1:=⟨fuel - 1,by omega⟩
    cases hS:ltb a.2.2.2.2.1 a.2.1.2
    · rw [yVn hS]
      simp only [zr,yv,ybd,yc5,beq_self_eq_true,cond_true,hS,cond_false]
    · unfold ye0
      rw [hS,cond_true]
      simp only [zr,yv,ybd,yc5,beq_self_eq_true,hS,cond_true,zkV,yfS]
      cases hc:((yB a).2 !=0)
      · have h0:=bne_eq_false_iff_eq.1 hc
        obtain ⟨_,h1,h2,h3⟩:=ySu h0
        rw [h0]
        exact ih (yB a).1 fuel (by rw [h2,h3]; omega) (by omega)
      · exact yEx (yB a).2 (yB a).1 fuel (beq_eq_false_iff_ne.2 (bne_iff_ne.1 hc)) (by omega)
theorem yLG (a0:dA) (hk:zi9 yd3 (a0,())):yiM a0=(fun n=>some ((n.1,n.2,()),())) (yen a0):=by
  unfold yiM yen yku
  simp only [yn0]
  cases hc:((yw a0).2 !=0)
  · have h0:=bne_eq_false_iff_eq.1 hc
    obtain ⟨h1,h2,h3⟩:=yPZ h0
    have hg:=yam.1 h3
    have hl:=yS9 8 (yw a0).1 18446744073709551616 (by rw [h1,h2]; omega) (by omega)
    rw [← h0]at hl
    refine (congrArg (fun z=>zjw z _ _) (show ygR (yua (yw a0).2 ye1 (yw a0).1)=_ from hl)).trans ?_
    simp only [zkJ,ynZ,zkV,cond_false]
    cases ((ye0 8 (yw a0).1).2 !=0)<;>rfl
  · have hl:=yEx (yw a0).2 (yw a0).1 18446744073709551616 (beq_eq_false_iff_ne.2 (bne_iff_ne.1 hc)) (by omega)
    refine (congrArg (fun z=>zjw z _ _) (show ygR (yua (yw a0).2 ye1 (yw a0).1)=_ from hl)).trans ?_
    simp only [zkJ,zkV,hc,cond_true]
def yxr:Con:=⟨yd3,ymj,fun x=>(fun n=>some ((n.1,n.2,()),())) (yen x.1)⟩
theorem yMk:ConOk Tryz.prog 34 yxr:=(yI6).mono (fun x r hk h=>(yLG x.1 hk).trans h)
end
section
def yp8:Code:=(Tryz.f9.body).getD .skip
def yp9:Env:=zki TT [(13,yC2),(15,yC6),(18,yCX),(19,yzK),(24,yzI),(33,yxA),(34,yxr)] []
theorem yyz:FrOk Tryz.prog ⟨yp9,96,fun _=>none⟩ yp8:=zkp yb yc ⟨yTV,yTZ,yTQ,yPy,yPw,yMt,yMk,trivial⟩
def yyX:Nat→Option Seg:=fun _=>none
abbrev yac:List Par:= [.rd tA]
abbrev ydu:List OT:= [⟨false,tB,.fz⟩]
def ycB (a0:dA):Option (ResD ydu×MutD yac) :=
  let r1:=ydX a0 1048576
  bif (ltb r1 0) then
    some ((true,()),())
  else
    let r2:=yfW a0
    let r3:=yhV r2
    let r4:=yfW a0
    let r5:=yen r4
    let r6:=ycy r5.1 r3.1
    bif (!(!r6)) then
      bif (r5.2 !=r3.2) then
        some ((false,()),())
      else
        let r7:=yfW a0
        let r8:=ycy r4 r7
        bif (!r8) then
          some ((false,()),())
        else
          let r9:=yE r4 1
          bif (!(ltb r9.1 0)) then
            let r10:=ycy r5.1 r3.1
            bif (!(!r10)) then
              bif (r5.2 !=r3.2) then
                some ((false,()),())
              else
                let r11:=yE r5.1 1
                let r12:=yb1 (r5.1.1,r5.1.2.1,r11.2.2.2.1,r5.1.2.2.2.1,r5.1.2.2.2.2.1,r5.1.2.2.2.2.2.1,r5.1.2.2.2.2.2.2.1,r5.1.2.2.2.2.2.2.2.1,r11.2.2.2.2.2.2.2.2.2.1,r5.1.2.2.2.2.2.2.2.2.2) 1
                bif (ltb r12 0) then
                  some ((false,()),())
                else
                  bif (r12 !=r11.1) then
                    some ((false,()),())
                  else
                    let r13:=yfW a0
                    let r14:=yen r13
                    let r15:=ycy r14.1 r3.1
                    bif (!(!r15)) then
                      bif (r14.2 !=r3.2) then
                        some ((false,()),())
                      else
                        let r16:=yb1 (r5.1.1,r5.1.2.1,r11.2.2.2.1,r5.1.2.2.2.1,r5.1.2.2.2.2.1,r5.1.2.2.2.2.2.1,r5.1.2.2.2.2.2.2.1,r5.1.2.2.2.2.2.2.2.1,r11.2.2.2.2.2.2.2.2.2.1,r5.1.2.2.2.2.2.2.2.2.2) 1
                        bif (ltb r16 0) then
                          some ((false,()),())
                        else
                          bif (r16 !=r11.1) then
                            some ((false,()),())
                          else
                            some ((true,()),())
                    else
                      some ((false,()),())
            else
              some ((false,()),())
          else
            some ((false,()),())
    else
      some ((false,()),())
theorem yB9 (x:InD yac):zjH ⟨yp9,96,yyX⟩ Tryz.f9.results.toList yp8 yac ydu x=ycB x.1:=by kernel_rfl
theorem yAp:ConOk Tryz.prog 9 ⟨yac,ydu,fun x=>ycB x.1⟩:=zkh (yyz) Tryz.func9 (by kernel_rfl) (by kernel_rfl) Tryz.ntmps9.symm (by decide) (fun x r h=>(yB9 x).trans h)
def yib (a0:dA):Bool:=true
theorem yQp {a:dA} (ha:ygd a≤2097152):ygd (yku a).1≤2105000:=by
  cases h:yr a
  · have:yw a=(a,1):=by unfold yw; rw [h]; rfl
    unfold yku; rw [this]; show ygd a≤_; omega
  · exact yVX ha (yTb (yV7 h))
theorem yAM (a0:dA) (hk:zi9 yac (a0,())):ycB a0=(fun n=>some ((n,()),())) (yib a0):=by
  unfold ycB yib yen yhV
  cases h:ltb (ydX a0 1048576) 0
  · have hs:=yWb (a:=a0) hk.1 h
    have hf:=yQp hs
    obtain ⟨f1,f2,f3⟩:=yVp (x:=a0) (by omega)
    obtain ⟨g1,g2,g3⟩:=yVp (x:=(yku a0).1) (by omega)
    simp only [h,yS6,yQN,bne_self_eq_false,Bool.not_true,Bool.not_false,cond_true,cond_false,f1,g2,g3]
  · simp only [h,cond_true]
def yzG:Con:=⟨yac,ydu,fun x=>(fun n=>some ((n,()),())) (yib x.1)⟩
theorem yAP:ConOk Tryz.prog 9 yzG:=(yAp).mono (fun x r hk h=>(yAM x.1 hk).trans h)
end
end
end Go.Tf
