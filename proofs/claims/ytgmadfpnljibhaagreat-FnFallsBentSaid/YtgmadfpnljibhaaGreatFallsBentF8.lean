/- Functions of the program, and what they come to. -/
import Derived.Test.YtgmadfpnljibhaaGreatFallsBentF7
namespace Go.Tf
noncomputable section
open Go.Proofs
set_option synthInstance.maxHeartbeats 400000
set_option synthInstance.maxSize 10000
set_option linter.unusedVariables false
set_option linter.unusedSimpArgs false
set_option maxRecDepth 100000
section
def yLI:Code:=(Tryz.f70.body).getD .skip
def yMp:Env:=zj2 TT [(36,ymg)] []
theorem yUu:FrOk Tryz.prog ⟨yMp,24,fun _=>none⟩ yLI:=zj6 yc yd ⟨yxJ,trivial⟩
def yWC:Nat→Option Seg:=fun _=>none
abbrev ym8:List Par:= [.rd tN,.rd tN]
abbrev yud:List OT:= [⟨false,tB,.fz⟩]
def yxR (a0 a1:dN):Option (ResD yud×MutD ym8) :=
 bif (a0.1==a1.1) then
 bif (a0.2.1==a1.2.1) then
 let r1:=yaj a0.2.2 a1.2.2
 some ((r1,()),())
 else
 some ((false,()),())
 else
 some ((false,()),())
theorem y47 (x:InD ym8):zjw ⟨yMp,24,yWC⟩ Tryz.f70.results.toList yLI ym8 yud x=yxR x.1 x.2.1:=by kernel_rfl
theorem yZn:ConOk Tryz.prog 70 ⟨ym8,yud,fun x=>yxR x.1 x.2.1⟩:=zj1 (yUu) Tryz.func70 (by kernel_rfl) (by kernel_rfl) Tryz.ntmps70.symm (by decide) (fun x r h=>(y47 x).trans h)
def ynR (a0 a1:dN):Bool :=
 bif (a0.1==a1.1) then
 bif (a0.2.1==a1.2.1) then
 let r1:=yaj a0.2.2 a1.2.2
 r1
 else
 false
 else
 false
def yHy:Con:=⟨ym8,yud,fun x=>(fun n=>some ((n,()),())) (ynR x.1 x.2.1)⟩
theorem y2V (a0 a1:dN):yxR a0 a1=(fun n=>some ((n,()),())) (ynR a0 a1):=zkp (p:=fun (n:Bool)=>((n,()),())) (zkb (p:=fun (n:Bool)=>((n,()),())) (zkb (p:=fun (n:Bool)=>((n,()),())) rfl rfl) rfl)
theorem y32:ConOk Tryz.prog 70 yHy:=(yZn).mono (fun x r _ h=>(y2V x.1 x.2.1).trans h)
end
section
def yI8:Code:=(Tryz.f74.body).getD .skip
def yJT:Env:=zj2 TT [(45,yur),(98,yxm)] []
theorem yRH:FrOk Tryz.prog ⟨yJT,11,fun _=>none⟩ yI8:=zj6 yc yd ⟨yEt,yK8,trivial⟩
def yTu:Nat→Option Seg:=fun _=>none
abbrev ygC:List Par:= [.rd tA]
abbrev yrm:List OT:= [⟨false,tA,(.pr .fz (.pr (.pr .fz .fz) (.pr (.ow (.pr (.ow (.ow .fz)) (.pr (.ow (.pr .fz (.ow .fz))) (.pr .fz (.ow .fz))))) (.pr .fz (.pr .fz (.pr .fz (.pr .fz (.pr .fz (.pr (.ow (.pr .fz (.ow .fz))) (.pr .fz (.pr .fz .fz)))))))))))⟩]
def ymt (a0:dA):Option (ResD yrm×MutD ygC) :=
 let r1:=yfF a0
 let r2:=ybI a0
 bif r2 then
 some (((r1.1,r1.2.1,r1.2.2.1,r1.2.2.2.1,r1.2.2.2.2.1,r1.2.2.2.2.2.1,r1.2.2.2.2.2.2.1,r1.2.2.2.2.2.2.2.1,r1.2.2.2.2.2.2.2.2.1,(-1),true,r1.2.2.2.2.2.2.2.2.2.2.2),()),())
 else
 some ((r1,()),())
theorem y1i (x:InD ygC):zjw ⟨yJT,11,yTu⟩ Tryz.f74.results.toList yI8 ygC yrm x=ymt x.1:=by kernel_rfl
theorem yVt:ConOk Tryz.prog 74 ⟨ygC,yrm,fun x=>ymt x.1⟩:=zj1 (yRH) Tryz.func74 (by kernel_rfl) (by kernel_rfl) Tryz.ntmps74.symm (by decide) (fun x r h=>(y1i x).trans h)
def ylt (a0:dA):dA:=bif yE a0 then offA a0 else a0
theorem yYP (a0:dA) (hk:zi1 ygC (a0,())):ymt a0=(fun n=>some ((n,()),())) (ylt a0):=by
 unfold ymt ylt ybI yfF
 cases yE a0<;>rfl
def yFu:Con:=⟨ygC,yrm,fun x=>(fun n=>some ((n,()),())) (ylt x.1)⟩
theorem yZJ:ConOk Tryz.prog 74 yFu:=(yVt).mono (fun x r hk h=>(yYP x.1 hk).trans h)
end
section
def yJi:Code:=(Tryz.f75.body).getD .skip
def yJ3:Env:=zj2 TT [(46,ynF),(103,yzz)] []
theorem yR1:FrOk Tryz.prog ⟨yJ3,11,fun _=>none⟩ yJi:=zj6 yc yd ⟨ywZ,yNe,trivial⟩
def yTE:Nat→Option Seg:=fun _=>none
abbrev ygM:List Par:= [.rd tA]
abbrev yrB:List OT:= [⟨false,tA,(.pr .fz (.pr (.pr .fz .fz) (.pr (.ow (.pr (.ow .fz) (.pr (.ow (.pr .fz .fz)) (.pr .fz (.ow .fz))))) (.pr .fz (.pr .fz (.pr .fz (.pr .fz (.pr .fz (.pr (.ow (.pr .fz .fz)) (.pr .fz (.pr .fz .fz)))))))))))⟩]
def ymD (a0:dA):Option (ResD yrB×MutD ygM) :=
 let r1:=yha a0
 let r2:=yaM a0
 bif r2 then
 some (((r1.1,r1.2.1,r1.2.2.1,r1.2.2.2.1,r1.2.2.2.2.1,r1.2.2.2.2.2.1,r1.2.2.2.2.2.2.1,r1.2.2.2.2.2.2.2.1,r1.2.2.2.2.2.2.2.2.1,(-1),true,r1.2.2.2.2.2.2.2.2.2.2.2),()),())
 else
 some ((r1,()),())
theorem y1x (x:InD ygM):zjw ⟨yJ3,11,yTE⟩ Tryz.f75.results.toList yJi ygM yrB x=ymD x.1:=by kernel_rfl
theorem yVI:ConOk Tryz.prog 75 ⟨ygM,yrB,fun x=>ymD x.1⟩:=zj1 (yR1) Tryz.func75 (by kernel_rfl) (by kernel_rfl) Tryz.ntmps75.symm (by decide) (fun x r h=>(y1x x).trans h)
def ylx (a0:dA):dA:=bif yE a0 then offA a0 else a0
theorem yY1 (a0:dA) (hk:zi1 ygM (a0,())):ymD a0=(fun n=>some ((n,()),())) (ylx a0):=by
 unfold ymD ylx yaM yha
 cases yE a0<;>rfl
def yFC:Con:=⟨ygM,yrB,fun x=>(fun n=>some ((n,()),())) (ylx x.1)⟩
theorem yZR:ConOk Tryz.prog 75 yFC:=(yVI).mono (fun x r hk h=>(yY1 x.1 hk).trans h)
end
section
def yCG:Code:=(Tryz.f7.body).getD .skip
def yCT:Env:=zj2 TT [(12,yRl),(25,yHw),(50,yvb),(57,yye),(58,ymh),(59,yzt),(60,yHs),(61,yHB),(62,yA5),(63,yzs),(64,yxj),(65,yxn),(66,yFz),(67,yyf),(68,yzo),(69,yzw),(70,yHy),(71,yve),(72,yEl),(73,yEm),(74,yFu),(75,yFC)] []
theorem yMR:FrOk Tryz.prog ⟨yCT,146,fun _=>none⟩ yCG:=zj6 yc yd ⟨yaav,y30,yIs,yN4,yxK,yQp,y3W,y35,ySZ,yQo,yK5,yK9,yZO,yN5,yM7,yNb,y32,yIv,ySX,yS0,yZJ,yZR,trivial⟩
def yNp:Nat→Option Seg:=fun _=>none
abbrev ydj:List Par:= [.kp tYs .fz]
abbrev ykW:List OT:= [⟨false,tB,.fz⟩]
def yh2 (a0:List Int):Option (ResD ykW×MutD ydj) :=
 let r1:=yGu a0
 bif r1 then
 some ((true,()),())
 else
 bnd (ybg a0) fun r2 =>
 let r3:=yef r2.1.1 r2.1.2.1
 let r4:=ybc r2.1.1 r2.1.2.1
 bnd (ybS a0) fun r5 =>
 let r6:=ynO r5.1.1 r5.1.2.1 r5.1.2.2.1 r5.1.2.2.2.1
 let r7:=ynT r5.1.1 r5.1.2.1 r5.1.2.2.1 r5.1.2.2.2.1
 bnd (ycv a0) fun r8 =>
 bnd (ybR a0) fun r9 =>
 bnd (ynY r9.1.1 r9.1.2.1) fun r10 =>
 bnd (ynZ r9.1.1 r9.1.2.1) fun r11 =>
 bnd (yes a0) fun r12 =>
 bnd (ybh a0) fun r13 =>
 bif (r3.2==r4.2) then
 bnd (yaH r3.1 r4.1) fun r14 =>
 bif r14.1.1 then
 bif (r6.2==r7.2) then
 bnd (yaH r6.1 r7.1) fun r15 =>
 bif r15.1.1 then
 let r16:=yeM r8.1.1
 let r17:=yeO r8.1.1
 bnd (yaH r16 r17) fun r18 =>
 bif r18.1.1 then
 bif (r10.1.2.1==r11.1.2.1) then
 let r19:=ynR r10.1.1 r11.1.1
 bif r19 then
 let r20:=ylP r12.1.1 r12.1.2.1
 let r21:=ylQ r12.1.1 r12.1.2.1
 bnd (yaY r20 r21) fun r22 =>
 bif r22.1.1 then
 let r23:=ylt r13.1.1
 let r24:=ylx r13.1.1
 bnd (yaH r23 r24) fun r25 =>
 some ((r25.1.1,()),())
 else
 some ((false,()),())
 else
 some ((false,()),())
 else
 some ((false,()),())
 else
 some ((false,()),())
 else
 some ((false,()),())
 else
 some ((false,()),())
 else
 some ((false,()),())
 else
 some ((false,()),())
theorem yRo (x:InD ydj):zjw ⟨yCT,146,yNp⟩ Tryz.f7.results.toList yCG ydj ykW x=yh2 x.1:=by kernel_rfl
theorem yNZ:ConOk Tryz.prog 7 ⟨ydj,ykW,fun x=>yh2 x.1⟩:=zj1 (yMR) Tryz.func7 (by kernel_rfl) (by kernel_rfl) Tryz.ntmps7.symm (by decide) (fun x r h=>(yRo x).trans h)
def ytq (a0:List Int):Bool:=true
theorem y97 (r:dN):ynR r r=true:=by unfold ynR; simp only [beq_self_eq_true,yqn,cond_true,Bool.and_self]
theorem yQe (a0:List Int) (hk:zi1 ydj (a0,())):yh2 a0=(fun n=>some ((n,()),())) (ytq a0):=by
 have hb:a0.length≤140737488355328:=by have:a0.length * 1≤2 ^ 47:=hk.1.1; omega
 obtain ⟨l,id,e1,q1⟩:=y09 a0 hb
 obtain ⟨m,ks,k,f,e2,q2⟩:=y4T a0 hb
 obtain ⟨r,e3,q3⟩:=y7K a0 hb
 obtain ⟨g,n,e4,q4⟩:=y4S a0 hb
 obtain ⟨d,es,e5,q5,q6⟩:=yaah a0 hb
 obtain ⟨o,e6,q7⟩:=y1a a0 hb
 have hgs:y2v g.2.1=true:=decide_eq_true q4
 have hs:yaY (ybf d es) (ybf d es)=some ((true,()),()):=by
  have hf:=yaaK es (yace q5 q6)
  exact y7A _ (by have:=hf.1; omega) (fun m hm=>by have:=hf.2 m hm; omega)
 have ho:ygR (bif yE o then offA o else o):=by
  cases yE o
  ·exact q7
  ·exact q7
 unfold yh2 ytq
 simp only [e1,e2,e3,e4,e5,e6,zkc,yef,ybc,ynO,ynT,yeM,yeO,ylP,ylQ,ylt,ylx,
  yLf g n (by unfold yn4; rw [hgs]; exact Bool.or_true _),yLg g n (by unfold yn5; rw [hgs]; exact Bool.or_true _),yim,yip,
  beq_self_eq_true,yOb _ (y5D id q1),yOb _ (yaar ks k f q2),yOb _ (yNH q3),y97,hs,yOb _ ho,cond_true]
 cases yGu a0<;>rfl
def yNy:Con:=⟨ydj,ykW,fun x=>(fun n=>some ((n,()),())) (ytq x.1)⟩
theorem yQm:ConOk Tryz.prog 7 yNy:=(yNZ).mono (fun x r hk h=>(yQe x.1 hk).trans h)
end
end
end Go.Tf
