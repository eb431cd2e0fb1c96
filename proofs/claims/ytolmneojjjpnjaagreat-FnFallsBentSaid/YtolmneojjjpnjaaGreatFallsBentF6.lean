/- Functions of the program, and what they come to. -/
import Derived.Test.YtolmneojjjpnjaaGreatFallsBentF5
namespace Go.Tf
noncomputable section
open Go.Proofs Go.Proofs.Tryz
set_option synthInstance.maxHeartbeats 400000
set_option synthInstance.maxSize 10000
set_option linter.unusedVariables false
set_option linter.unusedSimpArgs false
set_option maxRecDepth 100000
def yWj:Code:=(f35.body).getD .skip
def yWQ:Env:=zkw TT [(78,ykE),(100,yvX)] []
theorem yN1:FrOk prog ⟨yWQ,11,fun _=>none⟩ yWj:=zkA mixed yd ⟨ysx,yKA,trivial⟩
abbrev ynJ:List Par:= [.rd tA]
abbrev yvx:List OT:= [⟨false,tA,(.pr .fz (.pr (.pr .fz .fz) (.pr (.ow (.pr (.ow .fz) (.pr (.ow (.pr .fz .fz)) (.pr .fz (.ow .fz))))) (.pr .fz (.pr .fz (.pr .fz (.pr .fz (.pr .fz (.pr (.ow (.pr .fz .fz)) (.pr .fz (.pr .fz .fz)))))))))))⟩]
def yru (a0:dA):Option (zaY yvx×zak ynJ) :=let r1:=yf6 a0;let r2:=yaN a0;bif r2 then some (((r1.1,r1.2.1,r1.2.2.1,r1.2.2.2.1,r1.2.2.2.2.1,r1.2.2.2.2.2.1,r1.2.2.2.2.2.2.1,r1.2.2.2.2.2.2.2.1,r1.2.2.2.2.2.2.2.2.1,(-1),true,r1.2.2.2.2.2.2.2.2.2.2.2),()),()) else some ((r1,()),())
theorem yRF:ConOk prog 35 ⟨ynJ,yvx,fun x=>yru x.1⟩:=zkI (yN1) func35 ntmps35.symm fun x=>by kernel_rfl
def yjr (a0:dA):dA:=bif yE a0 then y70 a0 else a0
theorem yUQ (a0:dA) (hk:zjx ynJ (a0,())):yru a0=(fun n=>some ((n,()),())) (yjr a0):=by
 unfold yru yjr yaN yf6;cases yE a0<;>rfl
def yDC:Con:=⟨ynJ,yvx,fun x=>(fun n=>some ((n,()),())) (yjr x.1)⟩
theorem yVG:ConOk prog 35 yDC:=(yRF).mono (fun x r hk h=>(yUQ x.1 hk).trans h)
def yM1:Code:=(f3.body).getD .skip
def yM9:Env:=zkw TT [(14,yNq),(15,yt6),(16,yqP),(17,yj7),(18,yvR),(19,yFX),(20,yF6),(21,yxu),(22,yvQ),(23,ysZ),(24,ys3),(25,yDz),(26,yt7),(27,yF1),(28,yvM),(29,yvU),(30,yF3),(31,yqS),(32,yCE),(33,yCF),(34,yDu),(35,yDC)] []
theorem yKd:FrOk prog ⟨yM9,146,fun _=>none⟩ yM1:=zkA mixed yd ⟨y6q,yLx,yGX,ytq,yMQ,yZu,yZD,yOZ,yMP,yIO,yIS,yVD,yLy,yZy,yKt,yKx,yZA,yG0,yOX,yO0,yVy,yVG,trivial⟩
abbrev yio:List Par:= [.kp tYs .fz]
abbrev yoC:List OT:= [⟨false,tB,.fz⟩]
def ylZ (a0:List Int):Option (zaY yoC×zak yio) :=let r1:=yEy a0;bif r1 then some ((true,()),()) else bnd (ydc a0) fun r2 =>let r3:=ydP r2.1.1 r2.1.2.1;let r4:=ybb r2.1.1 r2.1.2.1;bnd (ydX a0) fun r5 =>let r6:=ykN r5.1.1 r5.1.2.1 r5.1.2.2.1 r5.1.2.2.2.1;let r7:=ykS r5.1.1 r5.1.2.1 r5.1.2.2.1 r5.1.2.2.2.1;bnd (yeL a0) fun r8 =>bnd (ydW a0) fun r9 =>bnd (ykX r9.1.1 r9.1.2.1) fun r10 =>bnd (ykY r9.1.1 r9.1.2.1) fun r11 =>bnd (ygP a0) fun r12 =>bnd (ydd a0) fun r13 =>bif(r3.2==r4.2)then bnd (ybC r3.1 r4.1) fun r14 =>bif r14.1.1 then bif(r6.2==r7.2)then bnd (ybC r6.1 r7.1) fun r15 =>bif r15.1.1 then let r16:=yek r8.1.1;let r17:=yem r8.1.1;bnd (ybC r16 r17) fun r18 =>bif r18.1.1 then bif(r10.1.2.1==r11.1.2.1)then let r19:=ykQ r10.1.1 r11.1.1;bif r19 then let r20:=yjI r12.1.1 r12.1.2.1;let r21:=yjJ r12.1.1 r12.1.2.1;bnd (ycb r20 r21) fun r22 =>bif r22.1.1 then let r23:=yjn r13.1.1;let r24:=yjr r13.1.1;bnd (ybC r23 r24) fun r25 =>some ((r25.1.1,()),()) else some ((false,()),()) else some ((false,()),()) else some ((false,()),()) else some ((false,()),()) else some ((false,()),()) else some ((false,()),()) else some ((false,()),()) else some ((false,()),())
theorem yLs:ConOk prog 3 ⟨yio,yoC,fun x=>ylZ x.1⟩:=zkI (yKd) func3 ntmps3.symm fun x=>by kernel_rfl
def yo2 (a0:List Int):Bool:=true
theorem y53 (r:dN):ykQ r r=true:=by unfold ykQ; simp only[beq_self_eq_true,ymE,cond_true,Bool.and_self]
theorem yMF (a0:List Int) (hk:zjx yio (a0,())):ylZ a0=(fun n=>some ((n,()),())) (yo2 a0):=by
 have hb:a0.length≤140737488355328:=by have:a0.length*1≤2^47:=hk.1.1; omega
 obtain⟨l,id,e1,q1⟩:=yXh a0 hb;obtain⟨m,ks,k,f,e2,q2⟩:=y0W a0 hb;obtain⟨r,e3,q3⟩:=y4n a0 hb;obtain⟨g,n,e4,q4⟩:=y0V a0 hb;obtain⟨d,es,e5,q5,q6⟩:=y6h a0 hb;obtain⟨o,e6,q7⟩:=yXi a0 hb;have hgs:yX3 g.2.1=true:=decide_eq_true q4
 have hs:ycb (ybc d es) (ybc d es)=some ((true,()),()):=by
  have hf:=y6F es (y8d q5 q6);exact y3c _ (by have:=hf.1; omega) (fun m hm=>by have:=hf.2 m hm; omega)
 have ho:yfO (bif yE o then y70 o else o):=by
  cases yE o
  ·exact q7
  ·exact q7
 unfold ylZ yo2
 simp only[e1,e2,e3,e4,e5,e6,zkH,ydP,ybb,ykN,ykS,yek,yem,yjI,yjJ,yjn,yjr,
  yIY g n (by unfold yk3; rw[hgs]; exact Bool.or_true _),yIZ g n (by unfold yk4; rw[hgs]; exact Bool.or_true _),yg0,yg3,
  beq_self_eq_true,yLE _ (y1a id q1),yLE _ (y6m ks k f q2),yLE _ (yLa q3),y53,hs,yLE _ ho,cond_true]
 cases yEy a0<;>rfl
def yK1:Con:=⟨yio,yoC,fun x=>(fun n=>some ((n,()),())) (yo2 x.1)⟩
theorem yMN:ConOk prog 3 yK1:=(yLs).mono (fun x r hk h=>(yMF x.1 hk).trans h)
end
end Go.Tf
