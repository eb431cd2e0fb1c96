/- Functions of the program, and what they come to. -/
import Derived.Test.YtgmadfpnljibhaaGreatBuiltBentF20
namespace Go.Tf
noncomputable section
open Go.Proofs
set_option synthInstance.maxHeartbeats 400000
set_option synthInstance.maxSize 10000
set_option linter.unusedVariables false
set_option linter.unusedSimpArgs false
set_option maxRecDepth 100000
section
def yAS:Code:=(Tryz.f111.body).getD .skip
def yBk:Env:=zki TT [(101,yjY),(202,yre)] []
theorem yIq:FrOk Tryz.prog ⟨yBk,15,fun _=>none⟩ yAS:=zkp yc yd ⟨yts,yCx,trivial⟩
def yJm:Nat→Option Seg:=fun _=>none
abbrev yb6:List Par:= [.pt tA (.pr .fz (.pr (.pr .fz .fz) (.pr (.ow (.pr (.ow (.ow .fz)) (.pr (.ow (.pr .fz (.ow .fz))) (.pr .fz (.ow .fz))))) (.pr .fz (.pr .fz (.pr .fz (.pr .fz (.pr .fz (.pr (.ow (.pr .fz (.ow .fz))) (.pr .fz (.pr .fz .fz)))))))))))]
abbrev yhm:List OT:= [⟨false,tB,.fz⟩]
def yjx (a0:dA):Option (ResD yhm×MutD yb6) :=
  bnd (yjv a0) fun r1 =>
  bif (!r1.1.1) then
    some ((false,()),(r1.2.1,()))
  else
    bnd (yad (r1.2.1.1,r1.2.1.2.1,r1.2.1.2.2.1,r1.2.1.2.2.2.1,r1.2.1.2.2.2.2.1,r1.2.1.2.2.2.2.2.1,r1.2.1.2.2.2.2.2.1,r1.2.1.2.2.2.2.2.2.2)) fun r2 =>
    some ((r2.1.1,()),(r2.2.1,()))
theorem yOm (x:InD yb6):zjH ⟨yBk,15,yJm⟩ Tryz.f111.results.toList yAS yb6 yhm x=yjx x.1:=by kernel_rfl
theorem yK1:ConOk Tryz.prog 111 ⟨yb6,yhm,fun x=>yjx x.1⟩:=zkh (yIq) Tryz.func111 (by kernel_rfl) (by kernel_rfl) Tryz.ntmps111.symm (by decide) (fun x r h=>(yOm x).trans h)
def ylZ (a0:dA):Bool×dA:=(!(yg (yl a0)),yl a0)
def yl1 (a0:dA):Bool:= !(yg a0)
theorem yMW (a0:dA) (hk:zi9 yb6 (a0,())) (hq:yl1 a0=true):yjx a0=(fun n=>some ((n.1,()),(n.2,()))) (ylZ a0):=by
  unfold yjx ylZ yl
  rw [yCG a0 hq]
  simp only [zky,yjl]
  cases hd:yg (yC a0)
  · have hm:yad (ye9 (yC a0))=some ((!(yg (yy (ye9 (yC a0)))),()),(yy (ye9 (yC a0)),())):=ytu (ye9 (yC a0)) (by unfold ydo; rw [show yg (ye9 (yC a0))=yg (yC a0) from rfl,hd]; rfl)
    exact (congrArg (fun z=>bnd z _) hm).trans rfl
  · simp only [Bool.not_true,Bool.not_false,cond_true]
    rw [hd]; rfl
def yl0 (a0:dA):Option (ResD yhm×MutD yb6):=bif yl1 a0 then (fun n=>some ((n.1,()),(n.2,()))) (ylZ a0) else none
theorem yNr (a0:dA) (h:yl1 a0=true):yl0 a0=(fun n=>some ((n.1,()),(n.2,()))) (ylZ a0):=by unfold yl0; rw [h]; rfl
def yxR:Con:=⟨yb6,yhm,fun x=>yl0 x.1⟩
theorem yNn:ConOk Tryz.prog 111 yxR:=(yK1).mono (fun x r hk h=>zkW h (fun hq=>yMW x.1 hk hq))
end
section
def yI3:Code:=(Tryz.f20.body).getD .skip
def yJs:Env:=zki TT [(45,yk5),(98,ylQ),(101,yjY),(102,yu7),(111,yxR)] []
theorem ySd:FrOk Tryz.prog ⟨yJs,57,fun _=>none⟩ yI3:=zkp yc yd ⟨ysL,yvy,yts,yGp,yNn,trivial⟩
def yUI:Nat→Option Seg:=fun _=>none
abbrev yku:List Par:= [.rd tA]
abbrev yuB:List OT:= [⟨false,tA,(.pr .fz (.pr (.pr .fz .fz) (.pr (.ow (.pr (.ow (.ow .fz)) (.pr (.ow (.pr .fz (.ow .fz))) (.pr .fz (.ow .fz))))) (.pr .fz (.pr .fz (.pr .fz (.pr .fz (.pr .fz (.pr (.ow (.pr .fz (.ow .fz))) (.pr .fz (.pr .fz .fz)))))))))))⟩,⟨false,tI,.fz⟩]
def yqJ (a0:dA):Option (ResD yuB×MutD yku) :=
  let r1:=ybl a0
  let r2:=ybg a0
  bif (!r2) then
    some ((r1,1,()),())
  else
    bif a0.2.2.2.2.2.2.2.2.2.2.1 then
      some ((r1,6,()),())
    else
      bif (!(a0.2.2.2.1==(-1))) then
        bif (inb a0.2.2.2.1 a0.2.2.1.length) then
          bif (!((((nth a0.2.2.1 a0.2.2.2.1 ([],[],false,[])).2).2).1)) then
            bif (ltb a0.2.2.2.2.1 a0.2.1.2) then
              some ((r1,2,()),())
            else
              bif a0.2.2.2.2.2.2.2.2.2.2.2 then
                some ((r1,5,()),())
              else
                bif (leb 59990 a0.2.2.2.2.2.2.2.1) then
                  some ((r1,7,()),())
                else
                  bnd (yl0 r1) fun r3 =>
                  bif (!r3.1.1) then
                    some ((r3.2.1,6,()),())
                  else
                    bnd (yad (r3.2.1.1,r3.2.1.2.1,r3.2.1.2.2.1,(-1),0,r3.2.1.2.2.2.2.2)) fun r4 =>
                    let r5:=yfD r4.1.1
                    some ((r4.2.1,r5,()),())
          else
            some ((r1,2,()),())
        else none
      else
        some ((r1,2,()),())
theorem yY3 (x:InD yku):zjH ⟨yJs,57,yUI⟩ Tryz.f20.results.toList yI3 yku yuB x=yqJ x.1:=by kernel_rfl
theorem yV4:ConOk Tryz.prog 20 ⟨yku,yuB,fun x=>yqJ x.1⟩:=zkh (ySd) Tryz.func20 (by kernel_rfl) (by kernel_rfl) Tryz.ntmps20.symm (by decide) (fun x r h=>(yY3 x).trans h)
def yhw (a0:dA):dA×Int:=ypp a0
theorem yYc (a0:dA) (hk:zi9 yku (a0,())):yqJ a0=(fun n=>some ((n.1,n.2,()),())) (yhw a0):=by
  unfold yqJ yhw ypp
  simp only [ybl,ybg]
  cases ha:ym a0
  · rfl
  cases hd:yg a0
  · rw [yNr a0 (by unfold yl1; rw [hd]; rfl),show a0.2.2.2.2.2.2.2.2.2.2.1=false from hd]
    cases hl:(a0.2.2.2.1== -1)
    · rw [ywY ha (beq_eq_false_iff_ne.1 hl)]
      have key:(bnd (some ((!(yg (yl a0)),()),(yl a0,()))) fun r3=>bif !r3.1.1 then some ((r3.2.1,6,()),()) else bnd (yad (ybf r3.2.1)) fun r4=>some ((r4.2.1,yfD r4.1.1,()),()))=some (((yhs a0).1,(yhs a0).2,()),()):=by
        simp only [zky]
        unfold yhs yfD
        cases hc:yg (yl a0)
        · have hm:yad (ybf (yl a0))=some ((!(yg (yy (ybf (yl a0)))),()),(yy (ybf (yl a0)),())):=ytu _ (by unfold ydo; rw [show yg (ybf (yl a0))=yg (yl a0) from rfl,hc]; rfl)
          rw [hm]
          simp only [zky]
          cases yg (yy (ybf (yl a0)))<;>rfl
        · rfl
      cases (nth a0.2.2.1 a0.2.2.2.1 ye).2.2.1<;>cases ltb a0.2.2.2.2.1 a0.2.1.2<;>cases a0.2.2.2.2.2.2.2.2.2.2.2<;>cases leb 59990 a0.2.2.2.2.2.2.2.1<;>first | rfl | exact key
    · rfl
  · rw [show a0.2.2.2.2.2.2.2.2.2.2.1=true from hd]; rfl
def ywO:Con:=⟨yku,yuB,fun x=>(fun n=>some ((n.1,n.2,()),())) (yhw x.1)⟩
theorem yH7:ConOk Tryz.prog 20 ywO:=(yV4).mono (fun x r hk h=>(yYc x.1 hk).trans h)
end
section
def yDg:Code:=(Tryz.f112.body).getD .skip
def yDN:Env:=zki TT [(203,yjk),(208,ylS)] []
theorem yKz:FrOk Tryz.prog ⟨yDN,21,fun _=>none⟩ yDg:=zkp yc yd ⟨yqH,yvA,trivial⟩
def yLH:Nat→Option Seg:=fun _=>none
abbrev yiq:List Par:= [.pt tA (.pr .fz (.pr (.pr .fz .fz) (.pr (.ow (.pr (.ow .fz) (.pr (.ow (.pr .fz .fz)) (.pr .fz (.ow .fz))))) (.pr .fz (.pr .fz (.pr .fz (.pr .fz (.pr .fz (.pr (.ow (.pr .fz .fz)) (.pr .fz (.pr .fz .fz)))))))))))]
abbrev yn6:List OT:= [⟨false,tI,.fz⟩]
def yrz (a0:dA):Option (ResD yn6×MutD yiq) :=
  let r1:=ycC a0
  bif r1.2.2.2.2.2.2.2.2.2.2.1 then
    some ((6,()),(r1,()))
  else
    let r2:=yT (r1.1,r1.2.1,r1.2.2.1,(-1),0,r1.2.2.2.2.2)
    bif r2.2.2.2.2.2.2.2.2.2.2.1 then
      some ((6,()),(r2,()))
    else
      some ((0,()),(r2,()))
theorem yR8 (x:InD yiq):zjH ⟨yDN,21,yLH⟩ Tryz.f112.results.toList yDg yiq yn6 x=yrz x.1:=by kernel_rfl
theorem yNj:ConOk Tryz.prog 112 ⟨yiq,yn6,fun x=>yrz x.1⟩:=zkh (yKz) Tryz.func112 (by kernel_rfl) (by kernel_rfl) Tryz.ntmps112.symm (by decide) (fun x r h=>(yR8 x).trans h)
def yjs (a0:dA):Int×dA :=
  let r1:=ycC a0
  bif r1.2.2.2.2.2.2.2.2.2.2.1 then
    (6,r1)
  else
    let r2:=yT (r1.1,r1.2.1,r1.2.2.1,(-1),0,r1.2.2.2.2.2)
    bif r2.2.2.2.2.2.2.2.2.2.2.1 then
      (6,r2)
    else
      (0,r2)
def yzP:Con:=⟨yiq,yn6,fun x=>(fun n=>some ((n.1,()),(n.2,()))) (yjs x.1)⟩
theorem yP9 (a0:dA):yrz a0=(fun n=>some ((n.1,()),(n.2,()))) (yjs a0):=zkS (p:=fun (n:Int×dA)=>((n.1,()),(n.2,()))) (zkx (p:=fun (n:Int×dA)=>((n.1,()),(n.2,()))) rfl (zkx (p:=fun (n:Int×dA)=>((n.1,()),(n.2,()))) rfl rfl))
theorem yQJ:ConOk Tryz.prog 112 yzP:=(yNj).mono (fun x r _ h=>(yP9 x.1).trans h)
end
section
def yI7:Code:=(Tryz.f21.body).getD .skip
def yJw:Env:=zki TT [(103,yol),(104,yqz),(112,yzP)] []
theorem ySr:FrOk Tryz.prog ⟨yJw,49,fun _=>none⟩ yI7:=zkp yc yd ⟨yw6,yyX,yQJ,trivial⟩
def yUM:Nat→Option Seg:=fun _=>none
abbrev ykF:List Par:= [.rd tA]
abbrev yuJ:List OT:= [⟨false,tA,(.pr .fz (.pr (.pr .fz .fz) (.pr (.ow (.pr (.ow .fz) (.pr (.ow (.pr .fz .fz)) (.pr .fz (.ow .fz))))) (.pr .fz (.pr .fz (.pr .fz (.pr .fz (.pr .fz (.pr (.ow (.pr .fz .fz)) (.pr .fz (.pr .fz .fz)))))))))))⟩,⟨false,tI,.fz⟩]
def yqP (a0:dA):Option (ResD yuJ×MutD ykF) :=
  let r1:=yb4 a0
  let r2:=ye4 a0
  bif (r2 !=0) then
    some ((r1,r2,()),())
  else
    bif (!(a0.2.2.2.1==(-1))) then
      bif (inb a0.2.2.2.1 a0.2.2.1.length) then
        bif (!((((nth a0.2.2.1 a0.2.2.2.1 ([],[],false,[])).2).2).1)) then
          bif (ltb a0.2.2.2.2.1 a0.2.1.2) then
            some ((r1,2,()),())
          else
            bif a0.2.2.2.2.2.2.2.2.2.2.2 then
              some ((r1,5,()),())
            else
              bif (leb 59990 a0.2.2.2.2.2.2.2.1) then
                some ((r1,7,()),())
              else
                let r3:=yjs r1
                some ((r3.2,r3.1,()),())
        else
          some ((r1,2,()),())
      else none
    else
      some ((r1,2,()),())
theorem yZb (x:InD ykF):zjH ⟨yJw,49,yUM⟩ Tryz.f21.results.toList yI7 ykF yuJ x=yqP x.1:=by kernel_rfl
theorem yWc:ConOk Tryz.prog 21 ⟨ykF,yuJ,fun x=>yqP x.1⟩:=zkh (ySr) Tryz.func21 (by kernel_rfl) (by kernel_rfl) Tryz.ntmps21.symm (by decide) (fun x r h=>(yZb x).trans h)
def yld (a0:dA):dA×Int:=ypp a0
theorem yYk (a0:dA) (hk:zi9 ykF (a0,())):yqP a0=(fun n=>some ((n.1,n.2,()),())) (yld a0):=by
  unfold yqP yld ypp
  simp only [yb4,ye4,yW]
  have hone:yjs a0=((yhs a0).2,(yhs a0).1):=by
    unfold yjs yhs yT
    simp only [yy4]
    show (bif yg (yl a0) then (6,yl a0) else bif yg (yy (ybf (yl a0))) then (6,yy (ybf (yl a0))) else (0,yy (ybf (yl a0))))=_
    cases yg (yl a0)
    · cases yg (yy (ybf (yl a0)))<;>rfl
    · rfl
  rw [hone]
  cases ha:ym a0
  · rfl
  cases hd:yg a0
  · rw [show a0.2.2.2.2.2.2.2.2.2.2.1=false from hd]
    cases hl:(a0.2.2.2.1== -1)
    · rw [ywY ha (beq_eq_false_iff_ne.1 hl)]
      cases (nth a0.2.2.1 a0.2.2.2.1 ye).2.2.1<;>cases ltb a0.2.2.2.2.1 a0.2.1.2<;>cases a0.2.2.2.2.2.2.2.2.2.2.2<;>cases leb 59990 a0.2.2.2.2.2.2.2.1<;>rfl
    · rfl
  · rw [show a0.2.2.2.2.2.2.2.2.2.2.1=true from hd]; rfl
def ywR:Con:=⟨ykF,yuJ,fun x=>(fun n=>some ((n.1,n.2,()),())) (yld x.1)⟩
theorem yIa:ConOk Tryz.prog 21 ywR:=(yWc).mono (fun x r hk h=>(yYk x.1 hk).trans h)
end
section
def yv0:Code:=(Tryz.f22.body).getD .skip
def yv1:Env:=zki TT [(13,yji)] []
theorem yEQ:FrOk Tryz.prog ⟨yv1,5,fun _=>none⟩ yv0:=zkp yc yd ⟨yrw,trivial⟩
def yFm:Nat→Option Seg:=fun _=>none
abbrev ydY:List Par:= [.kp tYs .fz]
abbrev yhG:List OT:= [⟨false,tA,(.pr .fz (.pr (.pr .fz .fz) (.pr (.ow (.pr (.ow .fz) (.pr (.ow (.pr .fz .fz)) (.pr .fz (.ow .fz))))) (.pr .fz (.pr .fz (.pr .fz (.pr .fz (.pr .fz (.pr (.ow (.pr .fz .fz)) (.pr .fz (.pr .fz .fz)))))))))))⟩]
def yaZ (a0:List Int):Option (ResD yhG×MutD ydY) :=
  bnd (yap a0) fun r1 =>
  some ((r1.1.1,()),())
theorem yIp (x:InD ydY):zjH ⟨yv1,5,yFm⟩ Tryz.f22.results.toList yv0 ydY yhG x=yaZ x.1:=by kernel_rfl
theorem yGm:ConOk Tryz.prog 22 ⟨ydY,yhG,fun x=>yaZ x.1⟩:=zkh (yEQ) Tryz.func22 (by kernel_rfl) (by kernel_rfl) Tryz.ntmps22.symm (by decide) (fun x r h=>(yIp x).trans h)
def ytV:Con:=⟨ydY,yhG,fun x=>yaZ x.1⟩
theorem yG5:ConOk Tryz.prog 22 ytV:=yGm
theorem yRP (a0:List Int) (hb:a0.length≤140737488355328): ∃ a:dA,yaZ a0=some ((a,()),())∧yb2 a:=by
  obtain ⟨a,e,q⟩:=yBS a0 hb
  unfold yaZ
  rw [e]
  exact ⟨a,rfl,q⟩
end
section
def yic:Code:=(Tryz.f23.body).getD .skip
def ynH:Env:=zki TT [(14,ywQ),(17,yps),(20,ywO)] []
theorem yKc:FrOk Tryz.prog ⟨ynH,34,fun _=>none⟩ yic:=zkp yc yd ⟨yH9,yAl,yH7,trivial⟩
def yzc:Nat→Option Seg:=fun _=>none
def ya8:Shape:=⟨[(2,false,[.ptr 64 0]),(4,false,[.ptr 4416 0]),(5,false,[.int .i64])],[(64,[.int .i64,.int .i64,.int .i64,.nil,.int .i64,.int .i64,.int .i64,.int .i64,.int .i64,.nil,.int .i64,.bool,.bool]),(4416,[.int .i64,.int .i64,.int .i64,.at 800000000,.int .i64,.int .i64,.int .i64,.int .i64,.int .i64,.at 800000001,.int .i64,.bool,.bool])],[(800000000,tM,(.pr (.ow (.ow .fz)) (.pr (.ow (.pr .fz (.ow .fz))) (.pr .fz (.ow .fz))))),(800000001,tW,(.pr .fz (.ow .fz)))]⟩
def yeP:Shape:=⟨[(2,false,[.ptr 64 0]),(4,false,[.ptr 4416 0]),(5,false,[.int .i64])],[(64,[.int .i64,.int .i64,.int .i64,.nil,.int .i64,.int .i64,.int .i64,.int .i64,.int .i64,.nil,.int .i64,.bool,.bool]),(4416,[.int .i64,.int .i64,.int .i64,.at 800000000,.int .i64,.int .i64,.int .i64,.int .i64,.int .i64,.at 800000001,.int .i64,.bool,.bool])],[(800000000,tM,(.pr (.ow (.ow .fz)) (.pr (.ow (.pr .fz (.ow .fz))) (.pr .fz (.ow .fz))))),(800000001,tW,(.pr .fz (.ow .fz)))]⟩
def yeG:Shape:=⟨[(2,false,[.ptr 64 0]),(4,false,[.ptr 4416 0]),(5,false,[.int .i64])],[(64,[.int .i64,.int .i64,.int .i64,.nil,.int .i64,.int .i64,.int .i64,.int .i64,.int .i64,.nil,.int .i64,.bool,.bool]),(4416,[.int .i64,.int .i64,.int .i64,.at 800000000,.int .i64,.int .i64,.int .i64,.int .i64,.int .i64,.at 800000001,.int .i64,.bool,.bool])],[(800000000,tM,(.pr (.ow (.ow .fz)) (.pr (.ow (.pr .fz (.ow .fz))) (.pr .fz (.ow .fz))))),(800000001,tW,(.pr .fz (.ow .fz)))]⟩
def yi5:Shape:=⟨[],[],[]⟩
abbrev ybK (v0:Int) (v1:dA) (v2:dA):(ya8).X:=((((),()),((),()),(v0,()),()),((v1.1,v1.2.1.1,v1.2.1.2,(),v1.2.2.2.1,v1.2.2.2.2.1,v1.2.2.2.2.2.1,v1.2.2.2.2.2.2.1,v1.2.2.2.2.2.2.2.1,(),v1.2.2.2.2.2.2.2.2.2.1,v1.2.2.2.2.2.2.2.2.2.2.1,v1.2.2.2.2.2.2.2.2.2.2.2,()),(v2.1,v2.2.1.1,v2.2.1.2,(),v2.2.2.2.1,v2.2.2.2.2.1,v2.2.2.2.2.2.1,v2.2.2.2.2.2.2.1,v2.2.2.2.2.2.2.2.1,(),v2.2.2.2.2.2.2.2.2.2.1,v2.2.2.2.2.2.2.2.2.2.2.1,v2.2.2.2.2.2.2.2.2.2.2.2,()),()),(v2.2.2.1,v2.2.2.2.2.2.2.2.2.1,()))
abbrev yww (v0:Int) (v1:dA) (v2:dA):(yeP).X:=((((),()),((),()),(v0,()),()),((v1.1,v1.2.1.1,v1.2.1.2,(),v1.2.2.2.1,v1.2.2.2.2.1,v1.2.2.2.2.2.1,v1.2.2.2.2.2.2.1,v1.2.2.2.2.2.2.2.1,(),v1.2.2.2.2.2.2.2.2.2.1,v1.2.2.2.2.2.2.2.2.2.2.1,v1.2.2.2.2.2.2.2.2.2.2.2,()),(v2.1,v2.2.1.1,v2.2.1.2,(),v2.2.2.2.1,v2.2.2.2.2.1,v2.2.2.2.2.2.1,v2.2.2.2.2.2.2.1,v2.2.2.2.2.2.2.2.1,(),v2.2.2.2.2.2.2.2.2.2.1,v2.2.2.2.2.2.2.2.2.2.2.1,v2.2.2.2.2.2.2.2.2.2.2.2,()),()),(v2.2.2.1,v2.2.2.2.2.2.2.2.2.1,()))
abbrev yws (v0:Int) (v1:dA) (v2:dA):(yeG).X:=((((),()),((),()),(v0,()),()),((v1.1,v1.2.1.1,v1.2.1.2,(),v1.2.2.2.1,v1.2.2.2.2.1,v1.2.2.2.2.2.1,v1.2.2.2.2.2.2.1,v1.2.2.2.2.2.2.2.1,(),v1.2.2.2.2.2.2.2.2.2.1,v1.2.2.2.2.2.2.2.2.2.2.1,v1.2.2.2.2.2.2.2.2.2.2.2,()),(v2.1,v2.2.1.1,v2.2.1.2,(),v2.2.2.2.1,v2.2.2.2.2.1,v2.2.2.2.2.2.1,v2.2.2.2.2.2.2.1,v2.2.2.2.2.2.2.2.1,(),v2.2.2.2.2.2.2.2.2.2.1,v2.2.2.2.2.2.2.2.2.2.2.1,v2.2.2.2.2.2.2.2.2.2.2.2,()),()),(v2.2.2.1,v2.2.2.2.2.2.2.2.2.1,()))
def yd9 (v0:Int) (v1:Int) (v2:Int) (v3:Int) (v4:Int) (v5:Int) (v6:Int) (v7:Int) (v8:Int) (v9:Int) (v10:Bool) (v11:Bool) (v12:Int) (v13:Int) (v14:Int) (v15:Int) (v16:Int) (v17:Int) (v18:Int) (v19:Int) (v20:Int) (v21:Bool) (v22:Bool) (v23:List dM) (v24:List dW):Option ((ya8).X ⊕ ((yeG).X ⊕ (yi5).X)) :=
  bif (v0==0) then
    bif (ltb v16 v14) then
      let r3:=yck (v12,(v13,v14),v23,v15,v16,v17,v18,v19,v24,v20,v21,v22)
      some (.inl ((((),()),((),()),(r3.2,()),()),((v1,v2,v3,(),v4,v5,v6,v7,v8,(),v9,v10,v11,()),(r3.1.1,r3.1.2.1.1,r3.1.2.1.2,(),r3.1.2.2.2.1,r3.1.2.2.2.2.1,r3.1.2.2.2.2.2.1,r3.1.2.2.2.2.2.2.1,r3.1.2.2.2.2.2.2.2.1,(),r3.1.2.2.2.2.2.2.2.2.2.1,r3.1.2.2.2.2.2.2.2.2.2.2.1,r3.1.2.2.2.2.2.2.2.2.2.2.2,()),()),(r3.1.2.2.1,r3.1.2.2.2.2.2.2.2.2.1,())))
    else
      some (.inr (.inl ((((),()),((),()),(v0,()),()),((v1,v2,v3,(),v4,v5,v6,v7,v8,(),v9,v10,v11,()),(v12,v13,v14,(),v15,v16,v17,v18,v19,(),v20,v21,v22,()),()),(v23,v24,()))))
  else
    some (.inr (.inl ((((),()),((),()),(v0,()),()),((v1,v2,v3,(),v4,v5,v6,v7,v8,(),v9,v10,v11,()),(v12,v13,v14,(),v15,v16,v17,v18,v19,(),v20,v21,v22,()),()),(v23,v24,()))))
def yP (x:(ya8).X):=yd9 x.1.2.2.1.1 x.2.1.1.1 x.2.1.1.2.1 x.2.1.1.2.2.1 x.2.1.1.2.2.2.2.1 x.2.1.1.2.2.2.2.2.1 x.2.1.1.2.2.2.2.2.2.1 x.2.1.1.2.2.2.2.2.2.2.1 x.2.1.1.2.2.2.2.2.2.2.2.1 x.2.1.1.2.2.2.2.2.2.2.2.2.2.1 x.2.1.1.2.2.2.2.2.2.2.2.2.2.2.1 x.2.1.1.2.2.2.2.2.2.2.2.2.2.2.2.1 x.2.1.2.1.1 x.2.1.2.1.2.1 x.2.1.2.1.2.2.1 x.2.1.2.1.2.2.2.2.1 x.2.1.2.1.2.2.2.2.2.1 x.2.1.2.1.2.2.2.2.2.2.1 x.2.1.2.1.2.2.2.2.2.2.2.1 x.2.1.2.1.2.2.2.2.2.2.2.2.1 x.2.1.2.1.2.2.2.2.2.2.2.2.2.2.1 x.2.1.2.1.2.2.2.2.2.2.2.2.2.2.2.1 x.2.1.2.1.2.2.2.2.2.2.2.2.2.2.2.2.1 x.2.2.1 x.2.2.2.1
def ywa (x:(yeP).X):(ya8).X:=((((),()),((),()),(x.1.2.2.1.1,()),()),((x.2.1.1.1,x.2.1.1.2.1,x.2.1.1.2.2.1,(),x.2.1.1.2.2.2.2.1,x.2.1.1.2.2.2.2.2.1,x.2.1.1.2.2.2.2.2.2.1,x.2.1.1.2.2.2.2.2.2.2.1,x.2.1.1.2.2.2.2.2.2.2.2.1,(),x.2.1.1.2.2.2.2.2.2.2.2.2.2.1,x.2.1.1.2.2.2.2.2.2.2.2.2.2.2.1,x.2.1.1.2.2.2.2.2.2.2.2.2.2.2.2.1,()),(x.2.1.2.1.1,x.2.1.2.1.2.1,x.2.1.2.1.2.2.1,(),x.2.1.2.1.2.2.2.2.1,x.2.1.2.1.2.2.2.2.2.1,x.2.1.2.1.2.2.2.2.2.2.1,x.2.1.2.1.2.2.2.2.2.2.2.1,x.2.1.2.1.2.2.2.2.2.2.2.2.1,(),x.2.1.2.1.2.2.2.2.2.2.2.2.2.2.1,x.2.1.2.1.2.2.2.2.2.2.2.2.2.2.2.1,x.2.1.2.1.2.2.2.2.2.2.2.2.2.2.2.2.1,()),()),(x.2.2.1,x.2.2.2.1,()))
def yxI:Code:=(zdI yic 64 56).getD .skip
theorem yJN:zdI yic 64 14=some (.block 0 (.loop yxI)):=by kernel_rfl
theorem yLi (x:(ya8).X):zg7 ⟨ynH,34,yzc⟩ 0 yxI 56 ya8 yeG yi5 x=yP x:=by kernel_rfl
def ywk (x:(yeP).X):Nat:=(fun (u0:Int) (u1:Int) (u2:Int) (u3:Int) (u4:Int) (u5:Int) (u6:Int) (u7:Int) (u8:Int) (u9:Int) (u10:Bool) (u11:Bool) (u12:Int) (u13:Int) (u14:Int) (u15:Int) (u16:Int) (u17:Int) (u18:Int) (u19:Int) (u20:Int) (u21:Bool) (u22:Bool) (u23:List dM) (u24:List dW)=>18446744073709551616) x.1.2.2.1.1 x.2.1.1.1 x.2.1.1.2.1 x.2.1.1.2.2.1 x.2.1.1.2.2.2.2.1 x.2.1.1.2.2.2.2.2.1 x.2.1.1.2.2.2.2.2.2.1 x.2.1.1.2.2.2.2.2.2.2.1 x.2.1.1.2.2.2.2.2.2.2.2.1 x.2.1.1.2.2.2.2.2.2.2.2.2.2.1 x.2.1.1.2.2.2.2.2.2.2.2.2.2.2.1 x.2.1.1.2.2.2.2.2.2.2.2.2.2.2.2.1 x.2.1.2.1.1 x.2.1.2.1.2.1 x.2.1.2.1.2.2.1 x.2.1.2.1.2.2.2.2.1 x.2.1.2.1.2.2.2.2.2.1 x.2.1.2.1.2.2.2.2.2.2.1 x.2.1.2.1.2.2.2.2.2.2.2.1 x.2.1.2.1.2.2.2.2.2.2.2.2.1 x.2.1.2.1.2.2.2.2.2.2.2.2.2.2.1 x.2.1.2.1.2.2.2.2.2.2.2.2.2.2.2.1 x.2.1.2.1.2.2.2.2.2.2.2.2.2.2.2.2.1 x.2.2.1 x.2.2.2.1
def yim (x:(yeP).X):Option ((yeG).X ⊕ (yi5).X):=zr yP (ywk x) (ywa x)
def ywz:Seg:=⟨yeP,yeG,yi5,yim⟩
def yzd:Nat→Option Seg:=fun q=>bif Nat.beq q 14 then some ywz else yzc q
theorem yKd:FrOk Tryz.prog ⟨ynH,34,yzd⟩ yic:=(yKc).loop (sg:=ywz) ya8 ywa (by decide) yJN yP ywk (by decide) (fun _=>rfl) (fun x r _ h=>h) yLi
abbrev yfa:List Par:= [.rd tA]
abbrev ynR:List OT:= [⟨false,tA,(.pr .fz (.pr (.pr .fz .fz) (.pr (.ow (.pr (.ow (.ow .fz)) (.pr (.ow (.pr .fz (.ow .fz))) (.pr .fz (.ow .fz))))) (.pr .fz (.pr .fz (.pr .fz (.pr .fz (.pr .fz (.pr (.ow (.pr .fz (.ow .fz))) (.pr .fz (.pr .fz .fz)))))))))))⟩,⟨false,tI,.fz⟩]
def yj4 (a0:dA):Option (ResD ynR×MutD yfa) :=
  let r1:=yhy a0
  zjw (yim ((((),()),((),()),(r1.2,()),()),((0,0,0,(),0,0,0,0,0,(),0,false,false,()),(r1.1.1,r1.1.2.1.1,r1.1.2.1.2,(),r1.1.2.2.2.1,r1.1.2.2.2.2.1,r1.1.2.2.2.2.2.1,r1.1.2.2.2.2.2.2.1,r1.1.2.2.2.2.2.2.2.1,(),r1.1.2.2.2.2.2.2.2.2.2.1,r1.1.2.2.2.2.2.2.2.2.2.2.1,r1.1.2.2.2.2.2.2.2.2.2.2.2,()),()),(r1.1.2.2.1,r1.1.2.2.2.2.2.2.2.2.1,()))) (fun y3 =>
    bif (y3.1.2.2.1.1 !=0) then
      some (((y3.2.1.2.1.1,(y3.2.1.2.1.2.1,y3.2.1.2.1.2.2.1),y3.2.2.1,y3.2.1.2.1.2.2.2.2.1,y3.2.1.2.1.2.2.2.2.2.1,y3.2.1.2.1.2.2.2.2.2.2.1,y3.2.1.2.1.2.2.2.2.2.2.2.1,y3.2.1.2.1.2.2.2.2.2.2.2.2.1,y3.2.2.2.1,y3.2.1.2.1.2.2.2.2.2.2.2.2.2.2.1,y3.2.1.2.1.2.2.2.2.2.2.2.2.2.2.2.1,y3.2.1.2.1.2.2.2.2.2.2.2.2.2.2.2.2.1),y3.1.2.2.1.1,()),())
    else
      let r5:=yhw (y3.2.1.2.1.1,(y3.2.1.2.1.2.1,y3.2.1.2.1.2.2.1),y3.2.2.1,y3.2.1.2.1.2.2.2.2.1,y3.2.1.2.1.2.2.2.2.2.1,y3.2.1.2.1.2.2.2.2.2.2.1,y3.2.1.2.1.2.2.2.2.2.2.2.1,y3.2.1.2.1.2.2.2.2.2.2.2.2.1,y3.2.2.2.1,y3.2.1.2.1.2.2.2.2.2.2.2.2.2.2.1,y3.2.1.2.1.2.2.2.2.2.2.2.2.2.2.2.1,y3.2.1.2.1.2.2.2.2.2.2.2.2.2.2.2.2.1)
      some ((r5.1,r5.2,()),())) (fun y3 =>
    none)
theorem yRT (x:InD yfa):zjH ⟨ynH,34,yzd⟩ Tryz.f23.results.toList yic yfa ynR x=yj4 x.1:=by kernel_rfl
theorem yM4:ConOk Tryz.prog 23 ⟨yfa,ynR,fun x=>yj4 x.1⟩:=zkh (yKd) Tryz.func23 (by kernel_rfl) (by kernel_rfl) Tryz.ntmps23.symm (by decide) (fun x r h=>(yRT x).trans h)
def yjm (a0:dA):dA×Int:=ypq a0
theorem yH6 (c:Int) (a:dA) (fuel:Nat) (hc:(c==0)=false) (hf:0 < fuel):zr yP fuel (ybK c yU a)=some (.inl (yws c yU a)):=by
  obtain ⟨fuel,rfl⟩: ∃ m,fuel=m+1:=⟨fuel - 1,by omega⟩
  simp only [zr,yP,ybK,yd9,hc,cond_false]
theorem yX9: ∀ (n:Nat) (a:dA) (fuel:Nat),(a.2.1.2 - a.2.2.2.2.1).toNat≤n→n+1 < fuel→zr yP fuel (ybK 0 yU a)=some (.inl (yws (ygh n a).2 yU (ygh n a).1)):=by
  intro n
  induction n with
  | zero =>
    intro a fuel h hf
    obtain ⟨fuel,rfl⟩: ∃ m,fuel=m+1:=⟨fuel - 1,by omega⟩
    simp only [zr,yP,ybK,yd9,beq_self_eq_true,cond_true,zkm (show a.2.1.2≤a.2.2.2.2.1 by omega),cond_false]
    rfl
  | succ n ih =>
    intro a fuel h hf
    obtain ⟨fuel,rfl⟩: ∃ m,fuel=m+1:=⟨fuel - 1,by omega⟩
    cases hS:ltb a.2.2.2.2.1 a.2.1.2
    · rw [y0h hS]
      simp only [zr,yP,ybK,yd9,beq_self_eq_true,cond_true,hS,cond_false]
    · unfold ygh
      rw [hS,cond_true]
      simp only [zr,yP,ybK,yd9,beq_self_eq_true,hS,cond_true,zkV,yck]
      cases hc:((yN a).2 !=0)
      · have h0:=bne_eq_false_iff_eq.1 hc
        obtain ⟨_,h1,h2,h3⟩:=yXp h0
        rw [h0]
        exact ih (yN a).1 fuel (by rw [h2,h3]; omega) (by omega)
      · exact yH6 (yN a).2 (yN a).1 fuel (beq_eq_false_iff_ne.2 (bne_iff_ne.1 hc)) (by omega)
theorem yPV (a0:dA) (hk:zi9 yfa (a0,())):yj4 a0=(fun n=>some ((n.1,n.2,()),())) (yjm a0):=by
  unfold yj4 yjm ypq
  simp only [yhy]
  cases hc:((yL a0).2 !=0)
  · have h0:=bne_eq_false_iff_eq.1 hc
    obtain ⟨h1,h2,h3⟩:=yUD h0
    have hg:=yk.1 h3
    have hl:=yX9 8 (yL a0).1 18446744073709551616 (by rw [h1,h2]; omega) (by omega)
    rw [← h0]at hl
    refine (congrArg (fun z=>zjw z _ _) (show yim (yww (yL a0).2 yU (yL a0).1)=_ from hl)).trans ?_
    simp only [zkJ,yhw,zkV,cond_false]
    cases ((ygh 8 (yL a0).1).2 !=0)<;>rfl
  · have hl:=yH6 (yL a0).2 (yL a0).1 18446744073709551616 (beq_eq_false_iff_ne.2 (bne_iff_ne.1 hc)) (by omega)
    refine (congrArg (fun z=>zjw z _ _) (show yim (yww (yL a0).2 yU (yL a0).1)=_ from hl)).trans ?_
    simp only [zkJ,zkV,hc,cond_true]
def yzH:Con:=⟨yfa,ynR,fun x=>(fun n=>some ((n.1,n.2,()),())) (yjm x.1)⟩
theorem yQB:ConOk Tryz.prog 23 yzH:=(yM4).mono (fun x r hk h=>(yPV x.1 hk).trans h)
end
end
end Go.Tf
