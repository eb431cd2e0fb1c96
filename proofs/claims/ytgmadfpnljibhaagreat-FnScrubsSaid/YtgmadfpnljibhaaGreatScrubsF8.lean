/- Functions of the program, and what they come to. -/
import Derived.Test.YtgmadfpnljibhaaGreatScrubsF7
namespace Go.Tf
noncomputable section
open Go.Proofs
set_option synthInstance.maxHeartbeats 400000
set_option synthInstance.maxSize 10000
set_option linter.unusedVariables false
set_option linter.unusedSimpArgs false
set_option maxRecDepth 100000
section
def yAG:Code:=(Tryz.f105.body).getD .skip
def yBj:Env:=zki TT [(138,ymR),(139,ymT),(203,ymU)] []
theorem yH2:FrOk Tryz.prog ⟨yBj,27,fun _=>none⟩ yAG:=zkp yc yd ⟨yu5,yu7,yu8,trivial⟩
def yI5:Nat→Option Seg:=fun _=>none
abbrev ycj:List Par:= [.pt tA (.pr .fz (.pr (.pr .fz .fz) (.pr (.ow (.pr (.ow .fz) (.pr (.ow (.pr .fz .fz)) (.pr .fz (.ow .fz))))) (.pr .fz (.pr .fz (.pr .fz (.pr .fz (.pr .fz (.pr (.ow (.pr .fz .fz)) (.pr .fz (.pr .fz .fz)))))))))))]
abbrev yhP:List OT:= [⟨false,tI,.fz⟩]
def yiR (a0:dA):Option (ResD yhP×MutD ycj) :=
  let r1:=ybD a0.2.1
  let r2:=ya3 r1
  bif (inb a0.2.2.2.1 a0.2.2.1.length) then
    let r3:=yax (a0.1,a0.2.1,(a0.2.2.1.set (a0.2.2.2.1).toNat r2),a0.2.2.2.1,0,a0.2.2.2.2.2)
    bif r3.2.2.2.2.2.2.2.2.2.2.1 then
      some ((6,()),(r3,()))
    else
      some ((0,()),(r3,()))
  else none
theorem yPg (x:InD ycj):zjH ⟨yBj,27,yI5⟩ Tryz.f105.results.toList yAG ycj yhP x=yiR x.1:=by kernel_rfl
theorem yKw:ConOk Tryz.prog 105 ⟨ycj,yhP,fun x=>yiR x.1⟩:=zkh (yH2) Tryz.func105 (by kernel_rfl) (by kernel_rfl) Tryz.ntmps105.symm (by decide) (fun x r h=>(yPg x).trans h)
def ymX (a0:dA):Int×dA:=(bif downA (markA (spareNew a0)) then 6 else 0,markA (spareNew a0))
def yid (a0:dA):Bool:=ye a0.2.1&&inb a0.2.2.2.1 a0.2.2.1.length
theorem yNf (a0:dA) (hk:zi9 ycj (a0,())) (hq:yid a0=true):yiR a0=(fun n=>some ((n.1,()),(n.2,()))) (ymX a0):=by
  simp only [yid,Bool.and_eq_true]at hq
  have hg:=yg.1 hq.1
  unfold yiR ymX
  simp only [ybD,wr (show -9223372036854775808≤6+a0.2.1.2 by omega) (by omega),hq.2,ya3,yax]
  show (bif downA (markA (spareNew a0)) then some ((6,()),(markA (spareNew a0),())) else some ((0,()),(markA (spareNew a0),())))=_
  cases downA (markA (spareNew a0))<;>rfl
def yib (a0:dA):Option (ResD yhP×MutD ycj):=bif yid a0 then (fun n=>some ((n.1,()),(n.2,()))) (ymX a0) else none
theorem yNQ (a0:dA) (h:yid a0=true):yib a0=(fun n=>some ((n.1,()),(n.2,()))) (ymX a0):=by unfold yib; rw [h]; rfl
def yxg:Con:=⟨ycj,yhP,fun x=>yib x.1⟩
theorem yNP:ConOk Tryz.prog 105 yxg:=(yKw).mono (fun x r hk h=>zkW h (fun hq=>yNf x.1 hk hq))
end
section
def yCW:Code:=(Tryz.f109.body).getD .skip
def yDF:Env:=zki TT [(141,ycD),(206,yrw),(207,yjP)] []
theorem yJF:FrOk Tryz.prog ⟨yDF,49,fun _=>none⟩ yCW:=zkp yc yd ⟨yfH,yCn,yq8,trivial⟩
def yK7:Nat→Option Seg:=fun _=>none
abbrev ydp:List Par:= [.pt tA (.pr .fz (.pr (.pr .fz .fz) (.pr (.ow (.pr (.ow .fz) (.pr (.ow (.pr .fz .fz)) (.pr .fz (.ow .fz))))) (.pr .fz (.pr .fz (.pr .fz (.pr .fz (.pr .fz (.pr (.ow (.pr .fz .fz)) (.pr .fz (.pr .fz .fz)))))))))))]
abbrev yjD:List OT:= [⟨false,tI,.fz⟩]
def ykN (a0:dA):Option (ResD yjD×MutD ydp) :=
  bnd (yj8 a0 a0.2.2.2.2.1) fun r1 =>
  bif (!r1.1.2.1) then
    some ((5,()),(a0,()))
  else
    let r2:=yaw a0.2.2.2.2.1
    bif (inb a0.2.2.2.1 r1.1.1.length) then
      bnd (yec a0 a0.2.2.2.1 r2 ([(nth r1.1.1 a0.2.2.2.1 0)]:List Int)) fun r3 =>
      bif r3.2.1.2.2.2.2.2.2.2.2.2.2.1 then
        some ((6,()),(r3.2.1,()))
      else
        some ((0,()),((r3.2.1.1,r3.2.1.2.1,r3.2.1.2.2.1,r3.2.1.2.2.2.1,(IntKind.i64.wrap (r3.2.1.2.2.2.2.1+1)),r3.2.1.2.2.2.2.2),()))
    else none
theorem ySS (x:InD ydp):zjH ⟨yDF,49,yK7⟩ Tryz.f109.results.toList yCW ydp yjD x=ykN x.1:=by kernel_rfl
theorem yNx:ConOk Tryz.prog 109 ⟨ydp,yjD,fun x=>ykN x.1⟩:=zkh (yJF) Tryz.func109 (by kernel_rfl) (by kernel_rfl) Tryz.ntmps109.symm (by decide) (fun x r h=>(ySS x).trans h)
def yoU (a0:dA):Int×dA:=stepOne a0
def ykb (a0:dA):Bool:=ye a0.2.1&&(inb a0.2.2.2.1 a0.2.2.1.length&&inb a0.2.2.2.1 a0.2.1.1.toNat)
theorem yQK (a0:dA) (hk:zi9 ydp (a0,())) (hq:ykb a0=true):ykN a0=(fun n=>some ((n.1,()),(n.2,()))) (yoU a0):=by
  simp only [ykb,Bool.and_eq_true]at hq
  unfold ykN yoU stepOne
  rw [yCq a0 a0.2.2.2.2.1 hq.1]
  simp only [zky,yfF,ydG]
  cases hw:(yy a0 a0.2.2.2.2.1).2
  · rfl
  · rw [yIH hw,hq.2.2,ylQ a0 a0.2.2.2.1 (dataAt a0.2.2.2.2.1) [nth (yy a0 a0.2.2.2.2.1).1 a0.2.2.2.1 0] hq.2.1]
    simp only [zky,yn6,Bool.not_true,cond_false,cond_true]
    show (bif downA (yR a0) then some ((6,()),(yR a0,())) else some ((0,()),(yZn (yR a0),())))=_
    cases downA (yR a0)<;>rfl
def yj7 (a0:dA):Option (ResD yjD×MutD ydp):=bif ykb a0 then (fun n=>some ((n.1,()),(n.2,()))) (yoU a0) else none
theorem yRL (a0:dA) (h:ykb a0=true):yj7 a0=(fun n=>some ((n.1,()),(n.2,()))) (yoU a0):=by unfold yj7; rw [h]; rfl
def yyZ:Con:=⟨ydp,yjD,fun x=>yj7 x.1⟩
theorem yRG:ConOk Tryz.prog 109 yyZ:=(yNx).mono (fun x r hk h=>zkW h (fun hq=>yQK x.1 hk hq))
end
section
def yFu:Code:=(Tryz.f110.body).getD .skip
def yF5:Env:=zki TT [(150,yC)] []
theorem yLY:FrOk Tryz.prog ⟨yF5,9,fun _=>none⟩ yFu:=zkp yc yd ⟨yM,trivial⟩
def yOq:Nat→Option Seg:=fun _=>none
abbrev ylj:List Par:= [.pt tU .fz,.rd tI]
abbrev yqN:List OT:= [⟨false,tB,.fz⟩]
def yak (a0:dU) (a1:Int):Option (ResD yqN×MutD ylj) :=
  bnd (yb a0 a1) fun r1 =>
  some (((r1.1.1==0),()),(r1.2.1,()))
theorem yVK (x:InD ylj):zjH ⟨yF5,9,yOq⟩ Tryz.f110.results.toList yFu ylj yqN x=yak x.1 x.2.1:=by kernel_rfl
theorem yRe:ConOk Tryz.prog 110 ⟨ylj,yqN,fun x=>yak x.1 x.2.1⟩:=zkh (yLY) Tryz.func110 (by kernel_rfl) (by kernel_rfl) Tryz.ntmps110.symm (by decide) (fun x r h=>(yVK x).trans h)
def ytB:Con:=⟨ylj,yqN,fun x=>yak x.1 x.2.1⟩
theorem yEo:ConOk Tryz.prog 110 ytB:=yRe
theorem ySB (u:dU) (n:Int) (h:yI u): ∃ (r:Bool) (u':dU),yak u n=some ((r,()),(u',()))∧yI u':=by
  unfold yak
  obtain ⟨r,u1,e1,_,d1⟩:=yB u n h
  simp only [e1,zky]
  exact ⟨_,_,rfl,d1⟩
end
section
def yGZ:Code:=(Tryz.f124.body).getD .skip
def yHg:Env:=zki TT [(150,yC)] []
theorem yPN:FrOk Tryz.prog ⟨yHg,12,fun _=>none⟩ yGZ:=zkp yc yd ⟨yM,trivial⟩
def ySj:Nat→Option Seg:=fun _=>none
abbrev ynI:List Par:= [.pt tU .fz,.rd tL]
abbrev yti:List OT:= [⟨false,tI,.fz⟩]
def yz (a0:dU) (a1:List Int):Option (ResD yti×MutD ynI) :=
  bnd (yb a0 (a1.length:Int)) fun r1 =>
  bif (inb r1.1.1 a1.length) then
    some (((nth a1 r1.1.1 0),()),(r1.2.1,()))
  else none
theorem yXd (x:InD ynI):zjH ⟨yHg,12,ySj⟩ Tryz.f124.results.toList yGZ ynI yti x=yz x.1 x.2.1:=by kernel_rfl
theorem yT2:ConOk Tryz.prog 124 ⟨ynI,yti,fun x=>yz x.1 x.2.1⟩:=zkh (yPN) Tryz.func124 (by kernel_rfl) (by kernel_rfl) Tryz.ntmps124.symm (by decide) (fun x r h=>(yXd x).trans h)
def yfz:Con:=⟨ynI,yti,fun x=>yz x.1 x.2.1⟩
theorem ylO:ConOk Tryz.prog 124 yfz:=yT2
theorem ynV (u:List Int×Int×Int) (l:List Int) (h:yI u) (hl:l≠ []): ∃ (r:Int) (u':List Int×Int×Int),yz u l=some ((r,()),(u',()))∧r∈l∧yI u':=by
  unfold yz
  obtain ⟨r1,u1,e1,q1,d1⟩:=yB u (l.length:Int) h
  have hp:0 < l.length:=List.length_pos_iff.2 hl
  have hr:=q1.2.1 (by omega)
  simp only [e1,zky,zjP.2 ⟨q1.1,hr⟩,cond_true]
  refine ⟨_,_,rfl,?_,d1⟩
  have:r1.toNat < l.length:=by have:=q1.1; omega
  unfold nth
  rw [List.getD_eq_getElem?_getD,List.getElem?_eq_getElem this,Option.getD_some]
  exact List.getElem_mem this
end
section
def yFt:Code:=(Tryz.f115.body).getD .skip
def yF4:Env:=zki TT [(124,yfz)] []
theorem yLX:FrOk Tryz.prog ⟨yF4,6,fun _=>none⟩ yFt:=zkp yc yd ⟨ylO,trivial⟩
def yOp:Nat→Option Seg:=fun _=>none
abbrev yli:List Par:= [.pt tU .fz]
abbrev yqM:List OT:= [⟨false,tI,.fz⟩]
def yN (a0:dU):Option (ResD yqM×MutD yli) :=
  bnd (yz a0 ([0,1,2,7,255,256,4660,65535]:List Int)) fun r1 =>
  some ((r1.1.1,()),(r1.2.1,()))
theorem yVJ (x:InD yli):zjH ⟨yF4,6,yOp⟩ Tryz.f115.results.toList yFt yli yqM x=yN x.1:=by kernel_rfl
theorem yRd:ConOk Tryz.prog 115 ⟨yli,yqM,fun x=>yN x.1⟩:=zkh (yLX) Tryz.func115 (by kernel_rfl) (by kernel_rfl) Tryz.ntmps115.symm (by decide) (fun x r h=>(yVJ x).trans h)
def ymS:Con:=⟨yli,yqM,fun x=>yN x.1⟩
theorem yu6:ConOk Tryz.prog 115 ymS:=yRd
theorem ySA (u:List Int×Int×Int) (h:yI u): ∃ (r:Int) (u':List Int×Int×Int),yN u=some ((r,()),(u',()))∧ya r 0 65535=true∧yI u':=by
  unfold yN
  obtain ⟨r1,u1,e1,q1,d1⟩:=ynV u [0,1,2,7,255,256,4660,65535] h (by simp)
  simp only [e1,zky]
  refine ⟨_,_,rfl,?_,d1⟩
  simp only [List.mem_cons,List.not_mem_nil,or_false]at q1
  exact y1q (by omega) (by omega)
end
section
def yCY:Code:=(Tryz.f208.body).getD .skip
def yDH:Env:=zki TT [(203,ymU),(261,ymV)] []
theorem yJN:FrOk Tryz.prog ⟨yDH,17,fun _=>none⟩ yCY:=zkp yc yd ⟨yu8,yu9,trivial⟩
def yK9:Nat→Option Seg:=fun _=>none
abbrev yjn:List Par:= [.pt tA (.pr .fz (.pr (.pr .fz .fz) (.pr (.ow (.pr (.ow .fz) (.pr (.ow (.pr .fz .fz)) (.pr .fz (.ow .fz))))) (.pr .fz (.pr .fz (.pr .fz (.pr .fz (.pr .fz (.pr (.ow (.pr .fz .fz)) (.pr .fz (.pr .fz .fz)))))))))))]
abbrev yoM:List OT:= []
def yrW (a0:dA):Option (ResD yoM×MutD yjn) :=
  let r1:=ydc a0
  bif r1.2.2.2.2.2.2.2.2.2.2.1 then
    some ((),(r1,()))
  else
    let r2:=yax (r1.1,r1.2.1,r1.2.2.1,r1.2.2.2.1,r1.2.2.2.2.1,r1.2.2.2.2.2.1,r1.2.2.2.2.2.1,r1.2.2.2.2.2.2.2)
    some ((),(r2,()))
theorem ySX (x:InD yjn):zjH ⟨yDH,17,yK9⟩ Tryz.f208.results.toList yCY yjn yoM x=yrW x.1:=by kernel_rfl
theorem yNC:ConOk Tryz.prog 208 ⟨yjn,yoM,fun x=>yrW x.1⟩:=zkh (yJN) Tryz.func208 (by kernel_rfl) (by kernel_rfl) Tryz.ntmps208.symm (by decide) (fun x r h=>(ySX x).trans h)
def yfG (a0:dA):dA :=
  let r1:=ydc a0
  bif r1.2.2.2.2.2.2.2.2.2.2.1 then
    r1
  else
    let r2:=yax (r1.1,r1.2.1,r1.2.2.1,r1.2.2.2.1,r1.2.2.2.2.1,r1.2.2.2.2.2.1,r1.2.2.2.2.2.1,r1.2.2.2.2.2.2.2)
    r2
def yrx:Con:=⟨yjn,yoM,fun x=>(fun n=>some ((),(n,()))) (yfG x.1)⟩
theorem yQO (a0:dA):yrW a0=(fun n=>some ((),(n,()))) (yfG a0):=zkS (p:=fun (n:dA)=>((),(n,()))) (zkx (p:=fun (n:dA)=>((),(n,()))) rfl rfl)
theorem yCo:ConOk Tryz.prog 208 yrx:=(yNC).mono (fun x r _ h=>(yQO x.1).trans h)
theorem yGo (a:dA):yfG a=checkA a:=by
  unfold yfG checkA ydc yax
  show (bif downA (yA a) then yA a else markA (yef (yA a)))=_
  rfl
end
end
end Go.Tf
