/- Functions of the program, and what they come to. -/
import Derived.Test.YtfpjmijaiekbgaaGreatExactRecoverF10
namespace Go.Tf
noncomputable section
open Go.Proofs
set_option synthInstance.maxHeartbeats 400000
set_option synthInstance.maxSize 10000
set_option linter.unusedVariables false
set_option linter.unusedSimpArgs false
set_option maxRecDepth 100000
section
def yJa:Code:=(Tryz.f25.body).getD .skip
def yJz:Env:=zki TT [(73,yGB),(82,yyj),(83,yBR)] []
theorem yQ5:FrOk Tryz.prog ⟨yJz,25,fun _=>none⟩ yJa:=zkp yb yc ⟨yY4,yJN,yS1,trivial⟩
def yTD:Nat→Option Seg:=fun _=>none
abbrev yhJ:List Par:= [.rd tA]
abbrev ytU:List OT:= [⟨false,tA,(.pr .fz (.pr (.pr .fz .fz) (.pr (.ow (.pr (.ow .fz) (.pr (.ow (.pr .fz .fz)) (.pr .fz (.ow .fz))))) (.pr .fz (.pr .fz (.pr .fz (.pr .fz (.pr .fz (.pr (.ow (.pr .fz .fz)) (.pr .fz (.pr .fz .fz)))))))))))⟩]
def ypN (a0:dA):Option (ResD ytU×MutD yhJ) :=
  let r1:=ynO a0
  let r2:=yg5 a0
  bif r2 then
    bif (!a0.2.2.2.2.2.2.2.2.2.2.1) then
      bif (!a0.2.2.2.2.2.2.2.2.2.2.2) then
        bif (ltb a0.2.2.2.2.2.2.2.1 60000) then
          bnd (ypx r1) fun r3 =>
          some ((r3.2.1,()),())
        else
          some ((r1,()),())
      else
        some ((r1,()),())
    else
      some ((r1,()),())
  else
    some ((r1,()),())
theorem yZX (x:InD yhJ):zjH ⟨yJz,25,yTD⟩ Tryz.f25.results.toList yJa yhJ ytU x=ypN x.1:=by kernel_rfl
theorem yV2:ConOk Tryz.prog 25 ⟨yhJ,ytU,fun x=>ypN x.1⟩:=zkh (yQ5) Tryz.func25 (by kernel_rfl) (by kernel_rfl) Tryz.ntmps25.symm (by decide) (fun x r h=>(yZX x).trans h)
def yhU (a0:dA):dA:=yth a0
theorem yYe (a0:dA) (hk:zi9 yhJ (a0,())):ypN a0=(fun n=>some ((n,()),())) (yhU a0):=by
  unfold ypN yhU yth
  simp only [ynO,yg5]
  cases ha:yaJ a0
  · rfl
  rw [yS3 a0 (by unfold yjz; rw [yLn ha,yLo ha]; simp)]
  unfold yjw
  generalize yNa a0=R
  show (bif true then bif !(ye a0) then (bif !a0.2.2.2.2.2.2.2.2.2.2.2 then bif ltb a0.2.2.2.2.2.2.2.1 60000 then _ else _ else _) else _ else _)=_
  cases ye a0<;>cases a0.2.2.2.2.2.2.2.2.2.2.2<;>cases ltb a0.2.2.2.2.2.2.2.1 60000<;>rfl
def yGz:Con:=⟨yhJ,ytU,fun x=>(fun n=>some ((n,()),())) (yhU x.1)⟩
theorem yY2:ConOk Tryz.prog 25 yGz:=(yV2).mono (fun x r hk h=>(yYe x.1 hk).trans h)
end
section
def yFk:Code:=(Tryz.f260.body).getD .skip
def yFY:Env:=zki TT [(262,yuu)] []
theorem yL4:FrOk Tryz.prog ⟨yFY,46,fun _=>none⟩ yFk:=zkp yb yc ⟨yGU,trivial⟩
def yNn:Nat→Option Seg:=fun _=>none
abbrev ye6:List Par:= [.rd tL]
abbrev ypd:List OT:= [⟨false,tS,(.pr .fz (.pr .fz (.pr .fz (.pr .fz (.pr .fz (.pr .fz (.pr .fz .fz)))))))⟩,⟨false,tB,.fz⟩]
def ykD (a0:List Int):Option (ResD ypd×MutD ye6) :=
  bif (!((a0.length:Int) !=9)) then
    bif (inb 0 a0.length) then
      bif ((nth a0 0 0) !=21317) then
        some (((0,0,0,0,0,0,0,0),false,()),())
      else
        bif (inb 1 a0.length) then
          bif (inb 2 a0.length) then
            bif (inb 3 a0.length) then
              bif (inb 4 a0.length) then
                bif (inb 5 a0.length) then
                  bif (inb 6 a0.length) then
                    bif (inb 7 a0.length) then
                      bif (inb 8 a0.length) then
                        let r1:=yr ((nth a0 1 0),(nth a0 2 0),(nth a0 3 0),(nth a0 4 0),(nth a0 5 0),(nth a0 6 0),(IntKind.i64.wrap ((nth a0 7 0) - 1)),(nth a0 8 0))
                        bif (!r1) then
                          some (((0,0,0,0,0,0,0,0),false,()),())
                        else
                          some ((((nth a0 1 0),(nth a0 2 0),(nth a0 3 0),(nth a0 4 0),(nth a0 5 0),(nth a0 6 0),(IntKind.i64.wrap ((nth a0 7 0) - 1)),(nth a0 8 0)),true,()),())
                      else none
                    else none
                  else none
                else none
              else none
            else none
          else none
        else none
    else none
  else
    some (((0,0,0,0,0,0,0,0),false,()),())
theorem yUk (x:InD ye6):zjH ⟨yFY,46,yNn⟩ Tryz.f260.results.toList yFk ye6 ypd x=ykD x.1:=by kernel_rfl
theorem yPf:ConOk Tryz.prog 260 ⟨ye6,ypd,fun x=>ykD x.1⟩:=zkh (yL4) Tryz.func260 (by kernel_rfl) (by kernel_rfl) Tryz.ntmps260.symm (by decide) (fun x r h=>(yUk x).trans h)
def yjs (a0:List Int):dS×Bool:=yc1 a0
theorem ySc (a0:List Int) (hk:zi9 ye6 (a0,())):ykD a0=(fun n=>some ((n.1,n.2,()),())) (yjs a0):=by
  unfold ykD yjs yc1
  by_cases h:(a0.length:Int)=9
  · simp only [bne,h,beq_self_eq_true,zjP.2 (show (0:Int)≤0∧(0:Int) < a0.length by omega),zjP.2 (show (0:Int)≤1∧(1:Int) < a0.length by omega),zjP.2 (show (0:Int)≤2∧(2:Int) < a0.length by omega),zjP.2 (show (0:Int)≤3∧(3:Int) < a0.length by omega),zjP.2 (show (0:Int)≤4∧(4:Int) < a0.length by omega),zjP.2 (show (0:Int)≤5∧(5:Int) < a0.length by omega),zjP.2 (show (0:Int)≤6∧(6:Int) < a0.length by omega),zjP.2 (show (0:Int)≤7∧(7:Int) < a0.length by omega),zjP.2 (show (0:Int)≤8∧(8:Int) < a0.length by omega)]
    rw [show yr (nth a0 1 0,nth a0 2 0,nth a0 3 0,nth a0 4 0,nth a0 5 0,nth a0 6 0,IntKind.i64.wrap (nth a0 7 0 - 1),nth a0 8 0)=yr (yCM a0) from rfl]
    cases (nth a0 0 0==21317)<;>cases yr (yCM a0)<;>rfl
  · rw [show ((a0.length:Int) !=9)=true from bne_iff_ne.2 h,show ((a0.length:Int)==9)=false from beq_eq_false_iff_ne.2 h]; rfl
def yBM:Con:=⟨ye6,ypd,fun x=>(fun n=>some ((n.1,n.2,()),())) (yjs x.1)⟩
theorem ySW:ConOk Tryz.prog 260 yBM:=(yPf).mono (fun x r hk h=>(ySc x.1 hk).trans h)
end
section
def ygy:Code:=(Tryz.f237.body).getD .skip
def ylW:Env:=zki TT [(220,yut),(260,yBM)] []
theorem yKd:FrOk Tryz.prog ⟨ylW,60,fun _=>none⟩ ygy:=zkp yb yc ⟨yGT,ySW,trivial⟩
def yy2:Nat→Option Seg:=fun _=>none
def yar:Shape:=⟨[(1,false,[.int .i64]),(2,false,[.ptr 0 0]),(4,false,[.ptr 64 0]),(6,false,[.ptr 4160 0]),(7,false,[.bool]),(8,false,[.int .i64])],[(0,[.br tL,.br tW,.bool,.br tI]),(64,[.int .i64,.int .i64,.int .i64,.int .i64,.int .i64,.int .i64,.int .i64,.int .i64]),(4160,[.int .i64,.int .i64,.int .i64,.int .i64,.int .i64,.int .i64,.int .i64,.int .i64])],[]⟩
def ydQ:Shape:=⟨[(1,false,[.int .i64]),(2,false,[.ptr 0 0]),(4,false,[.ptr 64 0]),(6,false,[.ptr 4160 0]),(7,false,[.cb false]),(8,false,[.ci .i64 0])],[(0,[.br tL,.br tW,.bool,.br tI]),(64,[.int .i64,.int .i64,.int .i64,.int .i64,.int .i64,.int .i64,.int .i64,.int .i64]),(4160,[.int .i64,.int .i64,.int .i64,.int .i64,.int .i64,.int .i64,.int .i64,.int .i64])],[]⟩
def ydK:Shape:=⟨[(4,false,[.ptr 64 0]),(6,false,[.ptr 4160 0]),(7,false,[.bool])],[(64,[.int .i64,.int .i64,.int .i64,.int .i64,.int .i64,.int .i64,.int .i64,.int .i64]),(4160,[.int .i64,.int .i64,.int .i64,.int .i64,.int .i64,.int .i64,.int .i64,.int .i64])],[]⟩
def yhn:Shape:=⟨[],[],[]⟩
abbrev ymA (v0:Int) (v1:Bool) (v2:Int) (v3:dM) (v4:dS) (v5:dS):(yar).X:=(((v0,()),((),()),((),()),((),()),(v1,()),(v2,()),()),((v3.1,v3.2.1,v3.2.2.1,v3.2.2.2,()),(v4.1,v4.2.1,v4.2.2.1,v4.2.2.2.1,v4.2.2.2.2.1,v4.2.2.2.2.2.1,v4.2.2.2.2.2.2.1,v4.2.2.2.2.2.2.2,()),(v5.1,v5.2.1,v5.2.2.1,v5.2.2.2.1,v5.2.2.2.2.1,v5.2.2.2.2.2.1,v5.2.2.2.2.2.2.1,v5.2.2.2.2.2.2.2,()),()),())
abbrev yIJ (v0:Int) (v1:dM) (v2:dS) (v3:dS):(ydQ).X:=(((v0,()),((),()),((),()),((),()),((),()),((),()),()),((v1.1,v1.2.1,v1.2.2.1,v1.2.2.2,()),(v2.1,v2.2.1,v2.2.2.1,v2.2.2.2.1,v2.2.2.2.2.1,v2.2.2.2.2.2.1,v2.2.2.2.2.2.2.1,v2.2.2.2.2.2.2.2,()),(v3.1,v3.2.1,v3.2.2.1,v3.2.2.2.1,v3.2.2.2.2.1,v3.2.2.2.2.2.1,v3.2.2.2.2.2.2.1,v3.2.2.2.2.2.2.2,()),()),())
abbrev yID (v0:Bool) (v1:dS) (v2:dS):(ydK).X:=((((),()),((),()),(v0,()),()),((v1.1,v1.2.1,v1.2.2.1,v1.2.2.2.1,v1.2.2.2.2.1,v1.2.2.2.2.2.1,v1.2.2.2.2.2.2.1,v1.2.2.2.2.2.2.2,()),(v2.1,v2.2.1,v2.2.2.1,v2.2.2.2.1,v2.2.2.2.2.1,v2.2.2.2.2.2.1,v2.2.2.2.2.2.2.1,v2.2.2.2.2.2.2.2,()),()),())
def ym8 (v0:Int) (v1:Bool) (v2:Int) (v3:List (List Int)) (v4:List dW) (v5:Bool) (v6:List Int) (v7:Int) (v8:Int) (v9:Int) (v10:Int) (v11:Int) (v12:Int) (v13:Int) (v14:Int) (v15:Int) (v16:Int) (v17:Int) (v18:Int) (v19:Int) (v20:Int) (v21:Int) (v22:Int):Option ((yar).X ⊕ ((ydK).X ⊕ (yhn).X)) :=
  bif (ltb v2 2) then
    let r3:=yeg (v3,v4,v5,v6) v2
    let r4:=yjs r3.1
    bif r3.2 then
      bif r4.2 then
        bif (r4.1.1==v0) then
          bif ((r4.1.2.1.tmod 2)==v2) then
            bif (!(!v1)) then
              bif (ltb v16 r4.1.2.1) then
                some (.inl (((v0,()),((),()),((),()),((),()),(true,()),((IntKind.i64.wrap (v2+1)),()),()),((v3,v4,v5,v6,()),(v7,v8,v9,v10,v11,v12,v13,v14,()),(r4.1.1,r4.1.2.1,r4.1.2.2.1,r4.1.2.2.2.1,r4.1.2.2.2.2.1,r4.1.2.2.2.2.2.1,r4.1.2.2.2.2.2.2.1,r4.1.2.2.2.2.2.2.2,()),()),()))
              else
                some (.inl (((v0,()),((),()),((),()),((),()),(v1,()),((IntKind.i64.wrap (v2+1)),()),()),((v3,v4,v5,v6,()),(v7,v8,v9,v10,v11,v12,v13,v14,()),(v15,v16,v17,v18,v19,v20,v21,v22,()),()),()))
            else
              some (.inl (((v0,()),((),()),((),()),((),()),(true,()),((IntKind.i64.wrap (v2+1)),()),()),((v3,v4,v5,v6,()),(v7,v8,v9,v10,v11,v12,v13,v14,()),(r4.1.1,r4.1.2.1,r4.1.2.2.1,r4.1.2.2.2.1,r4.1.2.2.2.2.1,r4.1.2.2.2.2.2.1,r4.1.2.2.2.2.2.2.1,r4.1.2.2.2.2.2.2.2,()),()),()))
          else
            some (.inl (((v0,()),((),()),((),()),((),()),(v1,()),((IntKind.i64.wrap (v2+1)),()),()),((v3,v4,v5,v6,()),(v7,v8,v9,v10,v11,v12,v13,v14,()),(v15,v16,v17,v18,v19,v20,v21,v22,()),()),()))
        else
          some (.inl (((v0,()),((),()),((),()),((),()),(v1,()),((IntKind.i64.wrap (v2+1)),()),()),((v3,v4,v5,v6,()),(v7,v8,v9,v10,v11,v12,v13,v14,()),(v15,v16,v17,v18,v19,v20,v21,v22,()),()),()))
      else
        some (.inl (((v0,()),((),()),((),()),((),()),(v1,()),((IntKind.i64.wrap (v2+1)),()),()),((v3,v4,v5,v6,()),(v7,v8,v9,v10,v11,v12,v13,v14,()),(v15,v16,v17,v18,v19,v20,v21,v22,()),()),()))
    else
      some (.inl (((v0,()),((),()),((),()),((),()),(v1,()),((IntKind.i64.wrap (v2+1)),()),()),((v3,v4,v5,v6,()),(v7,v8,v9,v10,v11,v12,v13,v14,()),(v15,v16,v17,v18,v19,v20,v21,v22,()),()),()))
  else
    some (.inr (.inl ((((),()),((),()),(v1,()),()),((v7,v8,v9,v10,v11,v12,v13,v14,()),(v15,v16,v17,v18,v19,v20,v21,v22,()),()),())))
def yaH (x:(yar).X):=ym8 x.1.1.1 x.1.2.2.2.2.1.1 x.1.2.2.2.2.2.1.1 x.2.1.1.1 x.2.1.1.2.1 x.2.1.1.2.2.1 x.2.1.1.2.2.2.1 x.2.1.2.1.1 x.2.1.2.1.2.1 x.2.1.2.1.2.2.1 x.2.1.2.1.2.2.2.1 x.2.1.2.1.2.2.2.2.1 x.2.1.2.1.2.2.2.2.2.1 x.2.1.2.1.2.2.2.2.2.2.1 x.2.1.2.1.2.2.2.2.2.2.2.1 x.2.1.2.2.1.1 x.2.1.2.2.1.2.1 x.2.1.2.2.1.2.2.1 x.2.1.2.2.1.2.2.2.1 x.2.1.2.2.1.2.2.2.2.1 x.2.1.2.2.1.2.2.2.2.2.1 x.2.1.2.2.1.2.2.2.2.2.2.1 x.2.1.2.2.1.2.2.2.2.2.2.2.1
def yws (x:(ydQ).X):(yar).X:=(((x.1.1.1,()),((),()),((),()),((),()),(false,()),(0,()),()),((x.2.1.1.1,x.2.1.1.2.1,x.2.1.1.2.2.1,x.2.1.1.2.2.2.1,()),(x.2.1.2.1.1,x.2.1.2.1.2.1,x.2.1.2.1.2.2.1,x.2.1.2.1.2.2.2.1,x.2.1.2.1.2.2.2.2.1,x.2.1.2.1.2.2.2.2.2.1,x.2.1.2.1.2.2.2.2.2.2.1,x.2.1.2.1.2.2.2.2.2.2.2.1,()),(x.2.1.2.2.1.1,x.2.1.2.2.1.2.1,x.2.1.2.2.1.2.2.1,x.2.1.2.2.1.2.2.2.1,x.2.1.2.2.1.2.2.2.2.1,x.2.1.2.2.1.2.2.2.2.2.1,x.2.1.2.2.1.2.2.2.2.2.2.1,x.2.1.2.2.1.2.2.2.2.2.2.2.1,()),()),())
def yxj:Code:=(zdI ygy 64 244).getD .skip
theorem yJZ:zdI ygy 64 61=some (.block 0 (.loop yxj)):=by kernel_rfl
theorem yKC (x:(yar).X):zg7 ⟨ylW,60,yy2⟩ 0 yxj 244 yar ydK yhn x=yaH x:=by kernel_rfl
def ywA (x:(ydQ).X):Nat:=(fun (u0:Int) (u1:List (List Int)) (u2:List dW) (u3:Bool) (u4:List Int) (u5:Int) (u6:Int) (u7:Int) (u8:Int) (u9:Int) (u10:Int) (u11:Int) (u12:Int) (u13:Int) (u14:Int) (u15:Int) (u16:Int) (u17:Int) (u18:Int) (u19:Int) (u20:Int)=>18446744073709551616) x.1.1.1 x.2.1.1.1 x.2.1.1.2.1 x.2.1.1.2.2.1 x.2.1.1.2.2.2.1 x.2.1.2.1.1 x.2.1.2.1.2.1 x.2.1.2.1.2.2.1 x.2.1.2.1.2.2.2.1 x.2.1.2.1.2.2.2.2.1 x.2.1.2.1.2.2.2.2.2.1 x.2.1.2.1.2.2.2.2.2.2.1 x.2.1.2.1.2.2.2.2.2.2.2.1 x.2.1.2.2.1.1 x.2.1.2.2.1.2.1 x.2.1.2.2.1.2.2.1 x.2.1.2.2.1.2.2.2.1 x.2.1.2.2.1.2.2.2.2.1 x.2.1.2.2.1.2.2.2.2.2.1 x.2.1.2.2.1.2.2.2.2.2.2.1 x.2.1.2.2.1.2.2.2.2.2.2.2.1
def yn4 (x:(ydQ).X):Option ((ydK).X ⊕ (yhn).X):=zr yaH (ywA x) (yws x)
def yw7:Seg:=⟨ydQ,ydK,yhn,yn4⟩
def yy3:Nat→Option Seg:=fun q=>bif Nat.beq q 61 then some yw7 else yy2 q
theorem yKe:FrOk Tryz.prog ⟨ylW,60,yy3⟩ ygy:=(yKd).loop (sg:=yw7) yar yws (by decide) yJZ yaH ywA (by decide) (fun _=>rfl) (fun x r _ h=>h) yKC
abbrev ydY:List Par:= [.rd tM,.rd tI]
abbrev ymg:List OT:= [⟨false,tS,(.pr .fz (.pr .fz (.pr .fz (.pr .fz (.pr .fz (.pr .fz (.pr .fz .fz)))))))⟩,⟨false,tB,.fz⟩]
def yjG (a0:dM) (a1:Int):Option (ResD ymg×MutD ydY) :=
  zjw (yn4 (((a1,()),((),()),((),()),((),()),((),()),((),()),()),((a0.1,a0.2.1,a0.2.2.1,a0.2.2.2,()),(0,0,0,0,0,0,0,0,()),(0,0,0,0,0,0,0,0,()),()),())) (fun y4 =>
    some (((y4.2.1.2.1.1,y4.2.1.2.1.2.1,y4.2.1.2.1.2.2.1,y4.2.1.2.1.2.2.2.1,y4.2.1.2.1.2.2.2.2.1,y4.2.1.2.1.2.2.2.2.2.1,y4.2.1.2.1.2.2.2.2.2.2.1,y4.2.1.2.1.2.2.2.2.2.2.2.1),y4.1.2.2.1.1,()),())) (fun y4 =>
    none)
theorem yQy (x:InD ydY):zjH ⟨ylW,60,yy3⟩ Tryz.f237.results.toList ygy ydY ymg x=yjG x.1 x.2.1:=by kernel_rfl
theorem yMM:ConOk Tryz.prog 237 ⟨ydY,ymg,fun x=>yjG x.1 x.2.1⟩:=zkh (yKe) Tryz.func237 (by kernel_rfl) (by kernel_rfl) Tryz.ntmps237.symm (by decide) (fun x r h=>(yQy x).trans h)
def yg6 (a0:dM) (a1:Int):dS×Bool:=yal a0 a1
theorem yOT (a0:dM) (a1:Int) (hk:zi9 ydY (a0,a1,())):yjG a0 a1=(fun n=>some ((n.1,n.2,()),())) (yg6 a0 a1):=by
  have h1:=zks (step:=yaH) 2 (fun i s=>ymA a1 s.2 i a0 yab s.1) (fun (s:dS×Bool) (i:Nat)=>ynB s (yDH a0 a1 i) (yQp a0 i)) (fun _ _=>True) (fun s=> .inl (yID s.2 yab s.1)) (fun i s hi _=>⟨by
    simp only [yaH,ymA,ym8,zjI (show (i:Int) < 2 by omega),cond_true,wr (show -9223372036854775808≤(i:Int)+1 by omega) (by omega),Int.natCast_add,Int.natCast_one,Int.toNat_natCast,zkV,yeg,yjs]
    unfold yDH ynB yQp
    cases (yk a0 i).2<;>cases (yc1 (yk a0 i).1).2<;>cases ((yc1 (yk a0 i).1).1.1==a1)<;>cases ((yc1 (yk a0 i).1).1.2.1.tmod 2==(i:Int))<;>cases hf:s.2<;>cases ltb s.1.2.1 (yc1 (yk a0 i).1).1.2.1<;>simp only [Bool.not_true,Bool.not_false,cond_true,cond_false,Bool.and_true,Bool.true_and,Bool.false_and,Bool.and_false,Bool.or_true,Bool.true_or,Bool.false_or,Bool.or_false,hf],trivial⟩) (fun s _=>by simp only [yaH,ymA,ym8]; rfl) (yab,false) trivial 18446744073709551616 (by omega)
  unfold yjG yg6
  rw [show yn4 (yIJ a1 a0 yab yab)=_ from h1]; rfl
def yzp:Con:=⟨ydY,ymg,fun x=>(fun n=>some ((n.1,n.2,()),())) (yg6 x.1 x.2.1)⟩
theorem yPq:ConOk Tryz.prog 237 yzp:=(yMM).mono (fun x r hk h=>(yOT x.1 x.2.1 hk).trans h)
end
section
def yHm:Code:=(Tryz.f187.body).getD .skip
def yHQ:Env:=zki TT [(237,yzp)] []
theorem yOw:FrOk Tryz.prog ⟨yHQ,33,fun _=>none⟩ yHm:=zkp yb yc ⟨yPq,trivial⟩
def yQa:Nat→Option Seg:=fun _=>none
abbrev yd2:List Par:= [.rd tMs,.rd tI,.rd tI]
abbrev ylp:List OT:= [⟨false,tS,(.pr .fz (.pr .fz (.pr .fz (.pr .fz (.pr .fz (.pr .fz (.pr .fz .fz)))))))⟩,⟨false,tB,.fz⟩]
def ym1 (a0:List dM) (a1:Int) (a2:Int):Option (ResD ylp×MutD yd2) :=
  bif (inb a1 a0.length) then
    bif (((nth a0 a1 ([],[],false,[])).2).2).1 then
      some (((0,0,0,0,0,0,0,0),false,()),())
    else
      bif (inb a1 a0.length) then
        let r1:=yg6 ((nth a0 a1 ([],[],false,[])).1,((nth a0 a1 ([],[],false,[])).2).1,(((nth a0 a1 ([],[],false,[])).2).2)) a2
        bif r1.2 then
          some ((r1.1,(r1.1.2.2.1==a1),()),())
        else
          some ((r1.1,false,()),())
      else none
  else none
theorem yXA (x:InD yd2):zjH ⟨yHQ,33,yQa⟩ Tryz.f187.results.toList yHm yd2 ylp x=ym1 x.1 x.2.1 x.2.2.1:=by kernel_rfl
theorem ySI:ConOk Tryz.prog 187 ⟨yd2,ylp,fun x=>ym1 x.1 x.2.1 x.2.2.1⟩:=zkh (yOw) Tryz.func187 (by kernel_rfl) (by kernel_rfl) Tryz.ntmps187.symm (by decide) (fun x r h=>(yXA x).trans h)
def ygu (a0:List dM) (a1 a2:Int):dS×Bool:=bif (nth a0 a1 yf).2.2.1 then (yab,false) else ((yal (nth a0 a1 yf) a2).1,ymG (nth a0 a1 yf) a1 a2)
def yys (a0:List dM) (a1 a2:Int):Bool:=inb a1 a0.length
theorem yVD (a0:List dM) (a1 a2:Int) (hk:zi9 yd2 (a0,a1,a2,())) (hq:yys a0 a1 a2=true):ym1 a0 a1 a2=(fun n=>some ((n.1,n.2,()),())) (ygu a0 a1 a2):=by
  unfold ym1 ygu ymG
  rw [show inb a1 a0.length=true from hq]
  simp only [zkV,yg6]
  cases (nth a0 a1 yf).2.2.1
  · cases (yal (nth a0 a1 yf) a2).2<;>rfl
  · rfl
def ylK (a0:List dM) (a1:Int) (a2:Int):Option (ResD ylp×MutD yd2):=bif yys a0 a1 a2 then (fun n=>some ((n.1,n.2,()),())) (ygu a0 a1 a2) else none
theorem yGW (a0:List dM) (a1:Int) (a2:Int) (h:yys a0 a1 a2=true):ylK a0 a1 a2=(fun n=>some ((n.1,n.2,()),())) (ygu a0 a1 a2):=by unfold ylK; rw [h]; rfl
def yuv:Con:=⟨yd2,ylp,fun x=>ylK x.1 x.2.1 x.2.2.1⟩
theorem yGV:ConOk Tryz.prog 187 yuv:=(ySI).mono (fun x r hk h=>zkW h (fun hq=>yVD x.1 x.2.1 x.2.2.1 hk hq))
end
section
def ynl:Code:=(Tryz.f186.body).getD .skip
def ytv:Env:=zki TT [(187,yuv)] []
theorem yRn:FrOk Tryz.prog ⟨ytv,40,fun _=>none⟩ ynl:=zkp yb yc ⟨yGV,trivial⟩
def yFP:Nat→Option Seg:=fun _=>none
def yb8:Shape:=⟨[(0,false,[.br tM]),(1,false,[.int .i64]),(4,false,[.ptr 0 0]),(6,false,[.ptr 4160 0]),(7,false,[.bool]),(8,false,[.int .i64])],[(0,[.int .i64,.int .i64,.int .i64,.int .i64,.int .i64,.int .i64,.int .i64,.int .i64]),(4160,[.int .i64,.int .i64,.int .i64,.int .i64,.int .i64,.int .i64,.int .i64,.int .i64])],[]⟩
def ygR:Shape:=⟨[(0,false,[.br tM]),(1,false,[.int .i64]),(4,false,[.ptr 0 0]),(6,false,[.ptr 4160 0]),(7,false,[.cb false]),(8,false,[.ci .i64 0])],[(0,[.int .i64,.int .i64,.int .i64,.int .i64,.int .i64,.int .i64,.int .i64,.int .i64]),(4160,[.int .i64,.int .i64,.int .i64,.int .i64,.int .i64,.int .i64,.int .i64,.int .i64])],[]⟩
def ygJ:Shape:=⟨[(4,false,[.ptr 0 0]),(6,false,[.ptr 4160 0]),(7,false,[.bool])],[(0,[.int .i64,.int .i64,.int .i64,.int .i64,.int .i64,.int .i64,.int .i64,.int .i64]),(4160,[.int .i64,.int .i64,.int .i64,.int .i64,.int .i64,.int .i64,.int .i64,.int .i64])],[]⟩
def yms:Shape:=⟨[],[],[]⟩
abbrev ysE (v0:List dM) (v1:Int) (v2:Bool) (v3:Int) (v4:dS) (v5:dS):(yb8).X:=(((v0,()),(v1,()),((),()),((),()),(v2,()),(v3,()),()),((v4.1,v4.2.1,v4.2.2.1,v4.2.2.2.1,v4.2.2.2.2.1,v4.2.2.2.2.2.1,v4.2.2.2.2.2.2.1,v4.2.2.2.2.2.2.2,()),(v5.1,v5.2.1,v5.2.2.1,v5.2.2.2.1,v5.2.2.2.2.1,v5.2.2.2.2.2.1,v5.2.2.2.2.2.2.1,v5.2.2.2.2.2.2.2,()),()),())
abbrev yOJ (v0:List dM) (v1:Int) (v2:dS) (v3:dS):(ygR).X:=(((v0,()),(v1,()),((),()),((),()),((),()),((),()),()),((v2.1,v2.2.1,v2.2.2.1,v2.2.2.2.1,v2.2.2.2.2.1,v2.2.2.2.2.2.1,v2.2.2.2.2.2.2.1,v2.2.2.2.2.2.2.2,()),(v3.1,v3.2.1,v3.2.2.1,v3.2.2.2.1,v3.2.2.2.2.1,v3.2.2.2.2.2.1,v3.2.2.2.2.2.2.1,v3.2.2.2.2.2.2.2,()),()),())
abbrev yOB (v0:Bool) (v1:dS) (v2:dS):(ygJ).X:=((((),()),((),()),(v0,()),()),((v1.1,v1.2.1,v1.2.2.1,v1.2.2.2.1,v1.2.2.2.2.1,v1.2.2.2.2.2.1,v1.2.2.2.2.2.2.1,v1.2.2.2.2.2.2.2,()),(v2.1,v2.2.1,v2.2.2.1,v2.2.2.2.1,v2.2.2.2.2.1,v2.2.2.2.2.2.1,v2.2.2.2.2.2.2.1,v2.2.2.2.2.2.2.2,()),()),())
def ys0 (v0:List dM) (v1:Int) (v2:Bool) (v3:Int) (v4:Int) (v5:Int) (v6:Int) (v7:Int) (v8:Int) (v9:Int) (v10:Int) (v11:Int) (v12:Int) (v13:Int) (v14:Int) (v15:Int) (v16:Int) (v17:Int) (v18:Int) (v19:Int):Option ((yb8).X ⊕ ((ygJ).X ⊕ (yms).X)) :=
  bif (ltb v3 (v0.length:Int)) then
    bnd (ylK v0 v3 v1) fun r2 =>
    bif r2.1.2.1 then
      bif (!(!v2)) then
        bif (ltb v13 r2.1.1.2.1) then
          some (.inl (((v0,()),(v1,()),((),()),((),()),(true,()),((IntKind.i64.wrap (v3+1)),()),()),((v4,v5,v6,v7,v8,v9,v10,v11,()),(r2.1.1.1,r2.1.1.2.1,r2.1.1.2.2.1,r2.1.1.2.2.2.1,r2.1.1.2.2.2.2.1,r2.1.1.2.2.2.2.2.1,r2.1.1.2.2.2.2.2.2.1,r2.1.1.2.2.2.2.2.2.2,()),()),()))
        else
          some (.inl (((v0,()),(v1,()),((),()),((),()),(v2,()),((IntKind.i64.wrap (v3+1)),()),()),((v4,v5,v6,v7,v8,v9,v10,v11,()),(v12,v13,v14,v15,v16,v17,v18,v19,()),()),()))
      else
        some (.inl (((v0,()),(v1,()),((),()),((),()),(true,()),((IntKind.i64.wrap (v3+1)),()),()),((v4,v5,v6,v7,v8,v9,v10,v11,()),(r2.1.1.1,r2.1.1.2.1,r2.1.1.2.2.1,r2.1.1.2.2.2.1,r2.1.1.2.2.2.2.1,r2.1.1.2.2.2.2.2.1,r2.1.1.2.2.2.2.2.2.1,r2.1.1.2.2.2.2.2.2.2,()),()),()))
    else
      some (.inl (((v0,()),(v1,()),((),()),((),()),(v2,()),((IntKind.i64.wrap (v3+1)),()),()),((v4,v5,v6,v7,v8,v9,v10,v11,()),(v12,v13,v14,v15,v16,v17,v18,v19,()),()),()))
  else
    some (.inr (.inl ((((),()),((),()),(v2,()),()),((v4,v5,v6,v7,v8,v9,v10,v11,()),(v12,v13,v14,v15,v16,v17,v18,v19,()),()),())))
def ycE (x:(yb8).X):=ys0 x.1.1.1 x.1.2.1.1 x.1.2.2.2.2.1.1 x.1.2.2.2.2.2.1.1 x.2.1.1.1 x.2.1.1.2.1 x.2.1.1.2.2.1 x.2.1.1.2.2.2.1 x.2.1.1.2.2.2.2.1 x.2.1.1.2.2.2.2.2.1 x.2.1.1.2.2.2.2.2.2.1 x.2.1.1.2.2.2.2.2.2.2.1 x.2.1.2.1.1 x.2.1.2.1.2.1 x.2.1.2.1.2.2.1 x.2.1.2.1.2.2.2.1 x.2.1.2.1.2.2.2.2.1 x.2.1.2.1.2.2.2.2.2.1 x.2.1.2.1.2.2.2.2.2.2.1 x.2.1.2.1.2.2.2.2.2.2.2.1
def yB5 (x:(ygR).X):(yb8).X:=(((x.1.1.1,()),(x.1.2.1.1,()),((),()),((),()),(false,()),(0,()),()),((x.2.1.1.1,x.2.1.1.2.1,x.2.1.1.2.2.1,x.2.1.1.2.2.2.1,x.2.1.1.2.2.2.2.1,x.2.1.1.2.2.2.2.2.1,x.2.1.1.2.2.2.2.2.2.1,x.2.1.1.2.2.2.2.2.2.2.1,()),(x.2.1.2.1.1,x.2.1.2.1.2.1,x.2.1.2.1.2.2.1,x.2.1.2.1.2.2.2.1,x.2.1.2.1.2.2.2.2.1,x.2.1.2.1.2.2.2.2.2.1,x.2.1.2.1.2.2.2.2.2.2.1,x.2.1.2.1.2.2.2.2.2.2.2.1,()),()),())
def yDG:Code:=(zdI ynl 64 244).getD .skip
theorem yQo:zdI ynl 64 61=some (.block 0 (.loop yDG)):=by kernel_rfl
theorem yTj (x:(yb8).X):zg7 ⟨ytv,40,yFP⟩ 0 yDG 244 yb8 ygJ yms x=ycE x:=by kernel_rfl
def yCj (x:(ygR).X):Nat:=(fun (u0:List dM) (u1:Int) (u2:Int) (u3:Int) (u4:Int) (u5:Int) (u6:Int) (u7:Int) (u8:Int) (u9:Int) (u10:Int) (u11:Int) (u12:Int) (u13:Int) (u14:Int) (u15:Int) (u16:Int) (u17:Int)=>18446744073709551616) x.1.1.1 x.1.2.1.1 x.2.1.1.1 x.2.1.1.2.1 x.2.1.1.2.2.1 x.2.1.1.2.2.2.1 x.2.1.1.2.2.2.2.1 x.2.1.1.2.2.2.2.2.1 x.2.1.1.2.2.2.2.2.2.1 x.2.1.1.2.2.2.2.2.2.2.1 x.2.1.2.1.1 x.2.1.2.1.2.1 x.2.1.2.1.2.2.1 x.2.1.2.1.2.2.2.1 x.2.1.2.1.2.2.2.2.1 x.2.1.2.1.2.2.2.2.2.1 x.2.1.2.1.2.2.2.2.2.2.1 x.2.1.2.1.2.2.2.2.2.2.2.1
def yup (x:(ygR).X):Option ((ygJ).X ⊕ (yms).X):=zr ycE (yCj x) (yB5 x)
def yCA:Seg:=⟨ygR,ygJ,yms,yup⟩
def yFQ:Nat→Option Seg:=fun q=>bif Nat.beq q 61 then some yCA else yFP q
theorem yRo:FrOk Tryz.prog ⟨ytv,40,yFQ⟩ ynl:=(yRn).loop (sg:=yCA) yb8 yB5 (by decide) yQo ycE yCj (by decide) (fun _=>rfl) (fun x r _ h=>h) yTj
abbrev yhO:List Par:= [.rd tMs,.rd tI]
abbrev yt2:List OT:= [⟨false,tS,(.pr .fz (.pr .fz (.pr .fz (.pr .fz (.pr .fz (.pr .fz (.pr .fz .fz)))))))⟩,⟨false,tB,.fz⟩]
def ypU (a0:List dM) (a1:Int):Option (ResD yt2×MutD yhO) :=
  zjw (yup (((a0,()),(a1,()),((),()),((),()),((),()),((),()),()),((0,0,0,0,0,0,0,0,()),(0,0,0,0,0,0,0,0,()),()),())) (fun y2 =>
    some (((y2.2.1.2.1.1,y2.2.1.2.1.2.1,y2.2.1.2.1.2.2.1,y2.2.1.2.1.2.2.2.1,y2.2.1.2.1.2.2.2.2.1,y2.2.1.2.1.2.2.2.2.2.1,y2.2.1.2.1.2.2.2.2.2.2.1,y2.2.1.2.1.2.2.2.2.2.2.2.1),y2.1.2.2.1.1,()),())) (fun y2 =>
    none)
theorem yZ7 (x:InD yhO):zjH ⟨ytv,40,yFQ⟩ Tryz.f186.results.toList ynl yhO yt2 x=ypU x.1 x.2.1:=by kernel_rfl
theorem yWc:ConOk Tryz.prog 186 ⟨yhO,yt2,fun x=>ypU x.1 x.2.1⟩:=zkh (yRo) Tryz.func186 (by kernel_rfl) (by kernel_rfl) Tryz.ntmps186.symm (by decide) (fun x r h=>(yZ7 x).trans h)
def ynQ (a0:List dM) (a1:Int):dS×Bool:=yH a0 a1
theorem yYo (a0:List dM) (a1:Int) (hk:zi9 yhO (a0,a1,())):ypU a0 a1=(fun n=>some ((n.1,n.2,()),())) (ynQ a0 a1):=by
  have hb:a0.length * 80≤2 ^ 47:=hk.1.1
  have h1:=zks (step:=ycE) a0.length (fun i s=>ysE a0 a1 s.2 i yab s.1) (fun (s:dS×Bool) (i:Nat)=>ynB s (ymG (nth a0 i yf) i a1) (yal (nth a0 i yf) a1).1) (fun _ _=>True) (fun s=> .inl (yOB s.2 yab s.1)) (fun i s hi _=>⟨by
    simp only [ycE,ysE,ys0,zjI (show (i:Int) < a0.length by omega),cond_true,wr (show -9223372036854775808≤(i:Int)+1 by omega) (by omega),Int.natCast_add,Int.natCast_one,Int.toNat_natCast,zkV,yGW a0 i a1 (zkO hi),zky,ygu]
    cases hx:(nth a0 i yf).2.2.1
    · simp only [cond_false]
      unfold ynB
      cases ymG (nth a0 i yf) i a1<;>cases hf:s.2<;>cases ltb s.1.2.1 (yal (nth a0 i yf) a1).1.2.1<;>simp only [Bool.not_true,Bool.not_false,cond_true,cond_false,Bool.and_true,Bool.true_and,Bool.false_and,Bool.and_false,Bool.or_true,Bool.true_or,Bool.false_or,Bool.or_false,hf]
    · unfold ynB ymG
      rw [hx]; rfl,trivial⟩) (fun s _=>by simp only [ycE,ysE,ys0,zkm (Int.le_refl _),cond_false]) (yab,false) trivial 18446744073709551616 (by omega)
  unfold ypU ynQ
  rw [show yup (yOJ a0 a1 yab yab)=_ from h1]; rfl
def yGG:Con:=⟨yhO,yt2,fun x=>(fun n=>some ((n.1,n.2,()),())) (ynQ x.1 x.2.1)⟩
theorem yY9:ConOk Tryz.prog 186 yGG:=(yWc).mono (fun x r hk h=>(yYo x.1 x.2.1 hk).trans h)
end
section
def yh7:Code:=(Tryz.f109.body).getD .skip
def yoM:Env:=zki TT [(82,yyj),(147,yff),(186,yGG),(187,yuv)] [(33216,(.pr (.ow .fz) (.pr (.ow (.pr .fz .fz)) (.pr .fz (.ow .fz))))),(33280,(.pr (.ow .fz) (.pr (.ow (.pr .fz .fz)) (.pr .fz (.ow .fz)))))]
theorem yL0:FrOk Tryz.prog ⟨yoM,89,fun _=>none⟩ yh7:=zkp yb yc ⟨yJN,ylM,yY9,yGV,trivial⟩
def yA8:Nat→Option Seg:=fun _=>none
def yaq:Shape:=⟨[(0,false,[.br tM]),(1,false,[.int .i64]),(4,false,[.ptr 0 0]),(8,false,[.ptr 17472 0]),(9,false,[.int .i64])],[(0,[.int .i64,.int .i64,.int .i64,.nil,.int .i64,.int .i64,.int .i64,.int .i64,.int .i64,.nil,.int .i64,.bool,.bool]),(17472,[.int .i64,.int .i64,.int .i64,.at 800000000,.int .i64,.int .i64,.int .i64,.int .i64,.int .i64,.nil,.int .i64,.bool,.bool])],[(800000000,tM,(.pr (.ow .fz) (.pr (.ow (.pr .fz .fz)) (.pr .fz (.ow .fz)))))]⟩
def ydP:Shape:=⟨[(0,false,[.br tM]),(1,false,[.int .i64]),(4,false,[.ptr 0 0]),(8,false,[.ptr 17472 0]),(9,false,[.ci .i64 0])],[(0,[.int .i64,.int .i64,.int .i64,.nil,.int .i64,.int .i64,.int .i64,.int .i64,.int .i64,.nil,.int .i64,.bool,.bool]),(17472,[.int .i64,.int .i64,.int .i64,.at 800000000,.int .i64,.int .i64,.int .i64,.int .i64,.int .i64,.nil,.int .i64,.bool,.bool])],[(800000000,tM,(.pr (.ow .fz) (.pr (.ow (.pr .fz .fz)) (.pr .fz (.ow .fz)))))]⟩
def ydJ:Shape:=⟨[(4,false,[.ptr 0 0]),(8,false,[.ptr 17472 0])],[(0,[.int .i64,.int .i64,.int .i64,.nil,.int .i64,.int .i64,.int .i64,.int .i64,.int .i64,.nil,.int .i64,.bool,.bool]),(17472,[.int .i64,.int .i64,.int .i64,.at 800000000,.int .i64,.int .i64,.int .i64,.int .i64,.int .i64,.nil,.int .i64,.bool,.bool])],[(800000000,tM,(.pr (.ow .fz) (.pr (.ow (.pr .fz .fz)) (.pr .fz (.ow .fz)))))]⟩
def yhm:Shape:=⟨[],[],[]⟩
abbrev ymz (v0:List dM) (v1:Int) (v2:Int) (v3:dA) (v4:dA):(yaq).X:=(((v0,()),(v1,()),((),()),((),()),(v2,()),()),((v3.1,v3.2.1.1,v3.2.1.2,(),v3.2.2.2.1,v3.2.2.2.2.1,v3.2.2.2.2.2.1,v3.2.2.2.2.2.2.1,v3.2.2.2.2.2.2.2.1,(),v3.2.2.2.2.2.2.2.2.2.1,v3.2.2.2.2.2.2.2.2.2.2.1,v3.2.2.2.2.2.2.2.2.2.2.2,()),(v4.1,v4.2.1.1,v4.2.1.2,(),v4.2.2.2.1,v4.2.2.2.2.1,v4.2.2.2.2.2.1,v4.2.2.2.2.2.2.1,v4.2.2.2.2.2.2.2.1,(),v4.2.2.2.2.2.2.2.2.2.1,v4.2.2.2.2.2.2.2.2.2.2.1,v4.2.2.2.2.2.2.2.2.2.2.2,()),()),(v4.2.2.1,()))
abbrev yII (v0:List dM) (v1:Int) (v2:dA) (v3:dA):(ydP).X:=(((v0,()),(v1,()),((),()),((),()),((),()),()),((v2.1,v2.2.1.1,v2.2.1.2,(),v2.2.2.2.1,v2.2.2.2.2.1,v2.2.2.2.2.2.1,v2.2.2.2.2.2.2.1,v2.2.2.2.2.2.2.2.1,(),v2.2.2.2.2.2.2.2.2.2.1,v2.2.2.2.2.2.2.2.2.2.2.1,v2.2.2.2.2.2.2.2.2.2.2.2,()),(v3.1,v3.2.1.1,v3.2.1.2,(),v3.2.2.2.1,v3.2.2.2.2.1,v3.2.2.2.2.2.1,v3.2.2.2.2.2.2.1,v3.2.2.2.2.2.2.2.1,(),v3.2.2.2.2.2.2.2.2.2.1,v3.2.2.2.2.2.2.2.2.2.2.1,v3.2.2.2.2.2.2.2.2.2.2.2,()),()),(v3.2.2.1,()))
abbrev ywJ (v0:dA) (v1:dA):(ydJ).X:=((((),()),((),()),()),((v0.1,v0.2.1.1,v0.2.1.2,(),v0.2.2.2.1,v0.2.2.2.2.1,v0.2.2.2.2.2.1,v0.2.2.2.2.2.2.1,v0.2.2.2.2.2.2.2.1,(),v0.2.2.2.2.2.2.2.2.2.1,v0.2.2.2.2.2.2.2.2.2.2.1,v0.2.2.2.2.2.2.2.2.2.2.2,()),(v1.1,v1.2.1.1,v1.2.1.2,(),v1.2.2.2.1,v1.2.2.2.2.1,v1.2.2.2.2.2.1,v1.2.2.2.2.2.2.1,v1.2.2.2.2.2.2.2.1,(),v1.2.2.2.2.2.2.2.2.2.1,v1.2.2.2.2.2.2.2.2.2.2.1,v1.2.2.2.2.2.2.2.2.2.2.2,()),()),(v1.2.2.1,()))
def ym7 (v0:List dM) (v1:Int) (v2:Int) (v3:Int) (v4:Int) (v5:Int) (v6:Int) (v7:Int) (v8:Int) (v9:Int) (v10:Int) (v11:Int) (v12:Bool) (v13:Bool) (v14:Int) (v15:Int) (v16:Int) (v17:Int) (v18:Int) (v19:Int) (v20:Int) (v21:Int) (v22:Int) (v23:Bool) (v24:Bool) (v25:List dM):Option ((yaq).X ⊕ ((ydJ).X ⊕ (yhm).X)) :=
  bif (ltb v2 (v0.length:Int)) then
    bif (inb v2 v0.length) then
      let r6:=yK ((nth v0 v2 ([],[],false,[])).1,((nth v0 v2 ([],[],false,[])).2).1,(((nth v0 v2 ([],[],false,[])).2).2))
      bif (zj4 v25.length ([r6]:List dM).length 80) then
        bnd (ylK v0 v2 v1) fun r7 =>
        bif r7.1.2.1 then
          some (.inl (((v0,()),(v1,()),((),()),((),()),((IntKind.i64.wrap (v2+1)),()),()),((v3,v4,v5,(),v6,v7,v8,v9,v10,(),v11,v12,v13,()),(v14,v15,v16,(),v17,v18,v19,v20,v21,(),v22,v23,v24,()),()),((v25++([r6]:List dM)),())))
        else
          bif (!(v17==(-1))) then
            bif (v17==v2) then
              some (.inl (((v0,()),(v1,()),((),()),((),()),((IntKind.i64.wrap (v2+1)),()),()),((v3,v4,v5,(),v6,v7,v8,v9,v10,(),v11,v12,v13,()),(v14,v15,v16,(),v2,0,v19,v20,v21,(),v22,v23,v24,()),()),((v25++([r6]:List dM)),())))
            else
              some (.inl (((v0,()),(v1,()),((),()),((),()),((IntKind.i64.wrap (v2+1)),()),()),((v3,v4,v5,(),v6,v7,v8,v9,v10,(),v11,v12,v13,()),(v14,v15,v16,(),v17,v18,v19,v20,v21,(),v22,v23,true,()),()),((v25++([r6]:List dM)),())))
          else
            some (.inl (((v0,()),(v1,()),((),()),((),()),((IntKind.i64.wrap (v2+1)),()),()),((v3,v4,v5,(),v6,v7,v8,v9,v10,(),v11,v12,v13,()),(v14,v15,v16,(),v2,0,v19,v20,v21,(),v22,v23,v24,()),()),((v25++([r6]:List dM)),())))
      else none
    else none
  else
    some (.inr (.inl ((((),()),((),()),()),((v3,v4,v5,(),v6,v7,v8,v9,v10,(),v11,v12,v13,()),(v14,v15,v16,(),v17,v18,v19,v20,v21,(),v22,v23,v24,()),()),(v25,()))))
def yaG (x:(yaq).X):=ym7 x.1.1.1 x.1.2.1.1 x.1.2.2.2.2.1.1 x.2.1.1.1 x.2.1.1.2.1 x.2.1.1.2.2.1 x.2.1.1.2.2.2.2.1 x.2.1.1.2.2.2.2.2.1 x.2.1.1.2.2.2.2.2.2.1 x.2.1.1.2.2.2.2.2.2.2.1 x.2.1.1.2.2.2.2.2.2.2.2.1 x.2.1.1.2.2.2.2.2.2.2.2.2.2.1 x.2.1.1.2.2.2.2.2.2.2.2.2.2.2.1 x.2.1.1.2.2.2.2.2.2.2.2.2.2.2.2.1 x.2.1.2.1.1 x.2.1.2.1.2.1 x.2.1.2.1.2.2.1 x.2.1.2.1.2.2.2.2.1 x.2.1.2.1.2.2.2.2.2.1 x.2.1.2.1.2.2.2.2.2.2.1 x.2.1.2.1.2.2.2.2.2.2.2.1 x.2.1.2.1.2.2.2.2.2.2.2.2.1 x.2.1.2.1.2.2.2.2.2.2.2.2.2.2.1 x.2.1.2.1.2.2.2.2.2.2.2.2.2.2.2.1 x.2.1.2.1.2.2.2.2.2.2.2.2.2.2.2.2.1 x.2.2.1
def ywr (x:(ydP).X):(yaq).X:=(((x.1.1.1,()),(x.1.2.1.1,()),((),()),((),()),(0,()),()),((x.2.1.1.1,x.2.1.1.2.1,x.2.1.1.2.2.1,(),x.2.1.1.2.2.2.2.1,x.2.1.1.2.2.2.2.2.1,x.2.1.1.2.2.2.2.2.2.1,x.2.1.1.2.2.2.2.2.2.2.1,x.2.1.1.2.2.2.2.2.2.2.2.1,(),x.2.1.1.2.2.2.2.2.2.2.2.2.2.1,x.2.1.1.2.2.2.2.2.2.2.2.2.2.2.1,x.2.1.1.2.2.2.2.2.2.2.2.2.2.2.2.1,()),(x.2.1.2.1.1,x.2.1.2.1.2.1,x.2.1.2.1.2.2.1,(),x.2.1.2.1.2.2.2.2.1,x.2.1.2.1.2.2.2.2.2.1,x.2.1.2.1.2.2.2.2.2.2.1,x.2.1.2.1.2.2.2.2.2.2.2.1,x.2.1.2.1.2.2.2.2.2.2.2.2.1,(),x.2.1.2.1.2.2.2.2.2.2.2.2.2.2.1,x.2.1.2.1.2.2.2.2.2.2.2.2.2.2.2.1,x.2.1.2.1.2.2.2.2.2.2.2.2.2.2.2.2.1,()),()),(x.2.2.1,()))
def yxi:Code:=(zdI yh7 64 500).getD .skip
theorem yJY:zdI yh7 64 125=some (.block 0 (.loop yxi)):=by kernel_rfl
theorem yKB (x:(yaq).X):zg7 ⟨yoM,89,yA8⟩ 0 yxi 500 yaq ydJ yhm x=yaG x:=by kernel_rfl
def ywz (x:(ydP).X):Nat:=(fun (u0:List dM) (u1:Int) (u2:Int) (u3:Int) (u4:Int) (u5:Int) (u6:Int) (u7:Int) (u8:Int) (u9:Int) (u10:Int) (u11:Bool) (u12:Bool) (u13:Int) (u14:Int) (u15:Int) (u16:Int) (u17:Int) (u18:Int) (u19:Int) (u20:Int) (u21:Int) (u22:Bool) (u23:Bool) (u24:List dM)=>18446744073709551616) x.1.1.1 x.1.2.1.1 x.2.1.1.1 x.2.1.1.2.1 x.2.1.1.2.2.1 x.2.1.1.2.2.2.2.1 x.2.1.1.2.2.2.2.2.1 x.2.1.1.2.2.2.2.2.2.1 x.2.1.1.2.2.2.2.2.2.2.1 x.2.1.1.2.2.2.2.2.2.2.2.1 x.2.1.1.2.2.2.2.2.2.2.2.2.2.1 x.2.1.1.2.2.2.2.2.2.2.2.2.2.2.1 x.2.1.1.2.2.2.2.2.2.2.2.2.2.2.2.1 x.2.1.2.1.1 x.2.1.2.1.2.1 x.2.1.2.1.2.2.1 x.2.1.2.1.2.2.2.2.1 x.2.1.2.1.2.2.2.2.2.1 x.2.1.2.1.2.2.2.2.2.2.1 x.2.1.2.1.2.2.2.2.2.2.2.1 x.2.1.2.1.2.2.2.2.2.2.2.2.1 x.2.1.2.1.2.2.2.2.2.2.2.2.2.2.1 x.2.1.2.1.2.2.2.2.2.2.2.2.2.2.2.1 x.2.1.2.1.2.2.2.2.2.2.2.2.2.2.2.2.1 x.2.2.1
def yn3 (x:(ydP).X):Option ((ydJ).X ⊕ (yhm).X):=zr yaG (ywz x) (ywr x)
def yw6:Seg:=⟨ydP,ydJ,yhm,yn3⟩
def yA9:Nat→Option Seg:=fun q=>bif Nat.beq q 125 then some yw6 else yA8 q
theorem yL1:FrOk Tryz.prog ⟨yoM,89,yA9⟩ yh7:=(yL0).loop (sg:=yw6) yaq ywr (by decide) yJY yaG ywz (by decide) (fun _=>rfl) (fun x r _ h=>h) yKB
abbrev ye4:List Par:= [.rd tMs,.rd tI]
abbrev ypb:List OT:= [⟨false,tA,(.pr .fz (.pr (.pr .fz .fz) (.pr (.ow (.pr (.ow .fz) (.pr (.ow (.pr .fz .fz)) (.pr .fz (.ow .fz))))) (.pr .fz (.pr .fz (.pr .fz (.pr .fz (.pr .fz (.pr (.ow (.pr .fz .fz)) (.pr .fz (.pr .fz .fz)))))))))))⟩,⟨false,tB,.fz⟩]
def ykB (a0:List dM) (a1:Int):Option (ResD ypb×MutD ye4) :=
  let r1:=ynQ a0 a1
  bif (!(!r1.2)) then
    bif ((a0.length:Int) !=r1.1.2.2.2.1) then
      some (((0,(0,0),[],0,0,0,0,0,[],0,false,false),false,()),())
    else
      zjw (yn3 (((a0,()),(a1,()),((),()),((),()),((),()),()),((0,0,0,(),0,0,0,0,0,(),0,false,false,()),(a1,r1.1.2.2.2.1,r1.1.2.2.2.2.1,(),r1.1.2.2.2.2.2.2.1,r1.1.2.2.2.2.2.2.2,r1.1.2.2.2.2.2.1,r1.1.2.2.2.2.2.1,r1.1.2.1,(),(-1),false,false,()),()),([],()))) (fun y7 =>
        let r9:=yg5 (y7.2.1.2.1.1,(y7.2.1.2.1.2.1,y7.2.1.2.1.2.2.1),y7.2.2.1,y7.2.1.2.1.2.2.2.2.1,y7.2.1.2.1.2.2.2.2.2.1,y7.2.1.2.1.2.2.2.2.2.2.1,y7.2.1.2.1.2.2.2.2.2.2.2.1,y7.2.1.2.1.2.2.2.2.2.2.2.2.1,[],y7.2.1.2.1.2.2.2.2.2.2.2.2.2.2.1,y7.2.1.2.1.2.2.2.2.2.2.2.2.2.2.2.1,y7.2.1.2.1.2.2.2.2.2.2.2.2.2.2.2.2.1)
        bif (!r9) then
          some (((0,(0,0),[],0,0,0,0,0,[],0,false,false),false,()),())
        else
          some (((y7.2.1.2.1.1,(y7.2.1.2.1.2.1,y7.2.1.2.1.2.2.1),y7.2.2.1,y7.2.1.2.1.2.2.2.2.1,y7.2.1.2.1.2.2.2.2.2.1,y7.2.1.2.1.2.2.2.2.2.2.1,y7.2.1.2.1.2.2.2.2.2.2.2.1,y7.2.1.2.1.2.2.2.2.2.2.2.2.1,[],y7.2.1.2.1.2.2.2.2.2.2.2.2.2.2.1,y7.2.1.2.1.2.2.2.2.2.2.2.2.2.2.2.1,y7.2.1.2.1.2.2.2.2.2.2.2.2.2.2.2.2.1),true,()),())) (fun y7 =>
        none)
  else
    some (((0,(0,0),[],0,0,0,0,0,[],0,false,false),false,()),())
theorem yUi (x:InD ye4):zjH ⟨yoM,89,yA9⟩ Tryz.f109.results.toList yh7 ye4 ypb x=ykB x.1 x.2.1:=by kernel_rfl
theorem yPd:ConOk Tryz.prog 109 ⟨ye4,ypb,fun x=>ykB x.1 x.2.1⟩:=zkh (yL1) Tryz.func109 (by kernel_rfl) (by kernel_rfl) Tryz.ntmps109.symm (by decide) (fun x r h=>(yUi x).trans h)
def yjq (a0:List dM) (a1:Int):dA×Bool:=yO a0 a1
theorem ySa (a0:List dM) (a1:Int) (hk:zi9 ye4 (a0,a1,())):ykB a0 a1=(fun n=>some ((n.1,n.2,()),())) (yjq a0 a1):=by
  have hb:a0.length * 80≤2 ^ 47:=hk.1.1
  have h1: ∀ (b:dS) (s:Int×Int×Bool),yn3 (yII a0 a1 ya2 (ygY b [] a1 s))=some (.inl (ywJ ya2 (ygY b a0 a1 ((List.range a0.length).foldl (ylq a0 a1) s)))):=fun b s=>by
    have:=zks (step:=yaG) a0.length (fun i s=>ymz a0 a1 i ya2 (ygY b (a0.take i) a1 s)) (ylq a0 a1) (fun _ _=>True) (fun s=> .inl (ywJ ya2 (ygY b (a0.take a0.length) a1 s))) (fun i s hi _=>⟨by
      simp only [yaG,ymz,ym7,zjI (show (i:Int) < a0.length by omega),cond_true,wr (show -9223372036854775808≤(i:Int)+1 by omega) (by omega),Int.natCast_add,Int.natCast_one,Int.toNat_natCast,zkO hi,zkV,yGW a0 i a1 (zkO hi),zky,ygu,yK,ygY]
      rw [zkw.2 (show ((a0.take i).length+ [nth a0 i yf].length) * 80≤140737488355328 by simp only [List.length_cons,List.length_nil,List.length_take]; omega),y2o a0 yf hi]
      unfold ylq
      cases hx:(nth a0 i yf).2.2.1
      · cases ymG (nth a0 i yf) i a1<;>cases (s.1== -1)<;>cases (s.1==(i:Int))<;>rfl
      · rw [show ymG (nth a0 i yf) i a1=false by unfold ymG; rw [hx]; rfl]
        cases (s.1== -1)<;>cases (s.1==(i:Int))<;>rfl,trivial⟩) (fun s _=>by simp only [yaG,ymz,ym7,zkm (Int.le_refl _),cond_false]) s trivial 18446744073709551616 (by omega)
    rw [List.take_length]at this
    exact this
  unfold ykB yjq yO yDs
  simp only [ynQ,bne]
  cases (yH a0 a1).2
  · rfl
  cases ((a0.length:Int)==(yH a0 a1).1.2.2.2.1)
  · rfl
  have h2:=h1 (yH a0 a1).1 ((yH a0 a1).1.2.2.2.2.2.2.1,(yH a0 a1).1.2.2.2.2.2.2.2,false)
  simp only [Bool.not_true,Bool.not_false,cond_true,cond_false,Bool.true_and]
  refine (congrArg (fun z=>zjw z _ _) h2).trans ?_
  simp only [zkJ,yg5]
  show (bif !(yaJ (ygY (yH a0 a1).1 a0 a1 ((List.range a0.length).foldl (ylq a0 a1) ((yH a0 a1).1.2.2.2.2.2.2.1,(yH a0 a1).1.2.2.2.2.2.2.2,false)))) then _ else _)=_
  cases yaJ (ygY (yH a0 a1).1 a0 a1 ((List.range a0.length).foldl (ylq a0 a1) ((yH a0 a1).1.2.2.2.2.2.2.1,(yH a0 a1).1.2.2.2.2.2.2.2,false)))<;>rfl
def yBK:Con:=⟨ye4,ypb,fun x=>(fun n=>some ((n.1,n.2,()),())) (yjq x.1 x.2.1)⟩
theorem ySU:ConOk Tryz.prog 109 yBK:=(yPd).mono (fun x r hk h=>(ySa x.1 x.2.1 hk).trans h)
end
end
end Go.Tf
