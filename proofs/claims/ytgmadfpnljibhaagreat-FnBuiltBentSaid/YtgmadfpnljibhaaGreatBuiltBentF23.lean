/- Functions of the program, and what they come to. -/
import Derived.Test.YtgmadfpnljibhaaGreatBuiltBentF22
namespace Go.Tf
noncomputable section
open Go.Proofs
set_option synthInstance.maxHeartbeats 400000
set_option synthInstance.maxSize 10000
set_option linter.unusedVariables false
set_option linter.unusedSimpArgs false
set_option maxRecDepth 100000
section
def yxt:Code:=(Tryz.f3.body).getD .skip
def yxB:Env:=zki TT [(12,yJV),(13,yji),(14,ywQ),(15,ywT),(16,yrP),(17,yps),(18,ypv),(19,yxT),(20,ywO),(21,ywR),(22,ytV),(23,yzH),(24,yzN),(25,yBK)] []
theorem yGc:FrOk Tryz.prog ⟨yxB,111,fun _=>none⟩ yxt:=zkp yc yd ⟨yZ9,yrw,yH9,yIc,yGr,yAl,yAn,yNp,yH7,yIa,yG5,yQB,yQH,yUb,trivial⟩
def yGB:Nat→Option Seg:=fun _=>none
abbrev ycr:List Par:= [.kp tYs .fz]
abbrev yiZ:List OT:= [⟨false,tB,.fz⟩]
def ygk (a0:List Int):Option (ResD yiZ×MutD ycr) :=
  let r1:=yAJ a0
  bif r1 then
    some ((true,()),())
  else
    bnd (yap a0) fun r2 =>
    let r3:=yhy r2.1.1
    let r4:=yhA r2.1.1
    bnd (yaJ a0) fun r5 =>
    let r6:=yck r5.1.1
    let r7:=ycm r5.1.1
    bnd (ycH a0) fun r8 =>
    let r9:=yhw r8.1.1
    let r10:=yld r8.1.1
    bnd (yaZ a0) fun r11 =>
    let r12:=yjm r11.1.1
    let r13:=yjq r11.1.1
    bif (r3.2==r4.2) then
      bnd (yax r3.1 r4.1) fun r14 =>
      bif r14.1.1 then
        bif (r6.2==r7.2) then
          bnd (yax r6.1 r7.1) fun r15 =>
          bif r15.1.1 then
            bif (r9.2==r10.2) then
              bnd (yax r9.1 r10.1) fun r16 =>
              bif r16.1.1 then
                bif (r12.2==r13.2) then
                  bnd (yax r12.1 r13.1) fun r17 =>
                  some ((r17.1.1,()),())
                else
                  some ((false,()),())
              else
                some ((false,()),())
            else
              some ((false,()),())
          else
            some ((false,()),())
        else
          some ((false,()),())
      else
        some ((false,()),())
    else
      some ((false,()),())
theorem yJ2 (x:InD ycr):zjH ⟨yxB,111,yGB⟩ Tryz.f3.results.toList yxt ycr yiZ x=ygk x.1:=by kernel_rfl
theorem yG2:ConOk Tryz.prog 3 ⟨ycr,yiZ,fun x=>ygk x.1⟩:=zkh (yGc) Tryz.func3 (by kernel_rfl) (by kernel_rfl) Tryz.ntmps3.symm (by decide) (fun x r h=>(yJ2 x).trans h)
def ypO (a0:List Int):Bool:=true
theorem yIP (a0:List Int) (hk:zi9 ycr (a0,())):ygk a0=(fun n=>some ((n,()),())) (ypO a0):=by
  have hb:a0.length≤140737488355328:=by have:a0.length * 1≤2 ^ 47:=hk.1.1; omega
  obtain ⟨a,e1,q1⟩:=yBS a0 hb
  obtain ⟨b,e2,q2⟩:=yOj a0 hb
  obtain ⟨c,e3,q3⟩:=yY2 a0 hb
  obtain ⟨d,e4,q4⟩:=yRP a0 hb
  unfold ygk ypO
  simp only [e1,e2,e3,e4,zky,yhy,yhA,yck,ycm,yhw,yld,yjm,yjq,beq_self_eq_true,yG8 _ (y03 q1),yG8 _ (y1y q2),yG8 _ (y02 q3),yG8 _ (y1X q4),cond_true]
  cases yAJ a0<;>rfl
def yGE:Con:=⟨ycr,yiZ,fun x=>(fun n=>some ((n,()),())) (ypO x.1)⟩
theorem yIV:ConOk Tryz.prog 3 yGE:=(yG2).mono (fun x r hk h=>(yIP x.1 hk).trans h)
end
end
end Go.Tf
