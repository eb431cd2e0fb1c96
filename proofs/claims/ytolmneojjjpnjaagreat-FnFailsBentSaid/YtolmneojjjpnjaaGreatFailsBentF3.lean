/- Functions of the program, and what they come to. -/
import Derived.Test.YtolmneojjjpnjaaGreatFailsBentF2
namespace Go.Tf
noncomputable section
open Go.Proofs Go.Proofs.Tryz IntKind
set_option synthInstance.maxHeartbeats 400000
set_option synthInstance.maxSize 10000
set_option linter.unusedVariables false
set_option linter.unusedSimpArgs false
set_option maxRecDepth 100000
def yNC:Code:=(f105.body).getD .skip
def yN5:Env:=zkw TT [(80,yb1)] []
theorem yFF:FrOk prog ⟨yN5,6,fun _=>none⟩ yNC:=zkA mixed yd ⟨yd6,trivial⟩
abbrev yrR:List Par:= [.pt tU .fz]
abbrev ysc:List OT:= [⟨false,tI,.fz⟩]
def ybX (a0:dU):Option (zaY ysc×zak yrR) :=bnd (yp a0 ([0,1,2,0,1,(-1),5]:List Int)) fun r1 =>some ((r1.1.1,()),(r1.2.1,()))
theorem yJp:ConOk prog 105 ⟨yrR,ysc,fun x=>ybX x.1⟩:=zkI (yFF) func105 ntmps105.symm fun x=>by kernel_rfl
def yis:Con:=⟨yrR,ysc,fun x=>ybX x.1⟩
theorem yqr:ConOk prog 105 yis:=yJp
theorem yBF (u:dU) (h:yx u): ∃(x:Int) (u':dU),ybX u=some ((x,()),(u',()))∧yx u':=by
 unfold ybX;obtain⟨x,u1,e1,_,d1⟩:=yhH u [0,1,2,0,1,(-1),5] h (by simp);simp only[e1,zkH];exact⟨x,u1,rfl,d1⟩
def yCf:Code:=(f36.body).getD .skip
def yCg:Env:=zkw TT [(69,ylN),(71,ykd),(85,yzZ),(86,ylP),(105,yis)] []
theorem yAF:FrOk prog ⟨yCg,17,fun _=>none⟩ yCf:=zkA mixed yd ⟨yu9,ysv,yPv,yvb,yqr,trivial⟩
abbrev yjc:List Par:= [.kp tYs .fz]
abbrev yjd:List OT:= [⟨false,tA,(.pr .fz (.pr (.pr .fz .fz) (.pr (.ow (.pr (.ow .fz) (.pr (.ow (.pr .fz .fz)) (.pr .fz (.ow .fz))))) (.pr .fz (.pr .fz (.pr .fz (.pr .fz (.pr .fz (.pr (.ow (.pr .fz .fz)) (.pr .fz (.pr .fz .fz)))))))))))⟩,⟨false,tI,.fz⟩]
def yb4 (a0:List Int):Option (zaY yjd×zak yjc) :=let r1:=ydM a0;let r2:=ycT a0 12;bnd (yb5 r1 r2) fun r3 =>bnd (ygS r3.2.1 r3.1.1) fun r4 =>bnd (ybX r4.2.1) fun r5 =>some ((r4.1.1,r5.1.1,()),())
theorem yBh:ConOk prog 36 ⟨yjc,yjd,fun x=>yb4 x.1⟩:=zkI (yAF) func36 ntmps36.symm fun x=>by kernel_rfl
def yoI:Con:=⟨yjc,yjd,fun x=>yb4 x.1⟩
theorem yBY:ConOk prog 36 yoI:=yBh
theorem yKZ (a0:List Int) (hb:a0.length≤140737488355328): ∃(a:dA) (m:Int),yb4 a0=some ((a,m,()),())∧yg2 a:=by
 unfold yb4;obtain⟨h1,h2⟩:=yOi a0 12 (by omega) hb;obtain⟨a,u1,e1,q1,d1⟩:=yHq _ _ (yRX a0 hb) h1 (by omega);obtain⟨a',u2,e2,q2,d2⟩:=yUb u1 a d1 q1;obtain⟨m,u3,e3,d3⟩:=yBF u2 d2;simp only[e1,e2,e3,zkH];exact⟨a',m,rfl,q2⟩
def yCT:Code:=(f37.body).getD .skip
def yCY:Env:=zkw TT [(69,ylN),(71,ykd),(80,yb1),(86,ylP),(105,yis)] []
theorem yBc:FrOk prog ⟨yCY,17,fun _=>none⟩ yCT:=zkA mixed yd ⟨yu9,ysv,yd6,yvb,yqr,trivial⟩
abbrev ykA:List Par:= [.kp tYs .fz]
abbrev ykH:List OT:= [⟨false,tA,(.pr .fz (.pr (.pr .fz .fz) (.pr (.ow (.pr (.ow .fz) (.pr (.ow (.pr .fz .fz)) (.pr .fz (.ow .fz))))) (.pr .fz (.pr .fz (.pr .fz (.pr .fz (.pr .fz (.pr (.ow (.pr .fz .fz)) (.pr .fz (.pr .fz .fz)))))))))))⟩,⟨false,tI,.fz⟩,⟨false,tI,.fz⟩]
def ycA (a0:List Int):Option (zaY ykH×zak ykA) :=let r1:=ydM a0;let r2:=ycT a0 8;bnd (yb5 r1 r2) fun r3 =>bnd (ybX r3.2.1) fun r4 =>bnd (yp r4.2.1 ([0,1,2,(-1),8]:List Int)) fun r5 =>some ((r3.1.1,r4.1.1,r5.1.1,()),())
theorem yBW:ConOk prog 37 ⟨ykA,ykH,fun x=>ycA x.1⟩:=zkI (yBc) func37 ntmps37.symm fun x=>by kernel_rfl
def ypW:Con:=⟨ykA,ykH,fun x=>ycA x.1⟩
theorem yCK:ConOk prog 37 ypW:=yBW
theorem yOg (a0:List Int) (hb:a0.length≤140737488355328): ∃(a:dA) (m s:Int),ycA a0=some ((a,m,s,()),())∧yg2 a:=by
 unfold ycA;obtain⟨h1,h2⟩:=yOi a0 8 (by omega) hb;obtain⟨a,u1,e1,q1,d1⟩:=yHq _ _ (yRX a0 hb) h1 (by omega);obtain⟨m,u2,e2,d2⟩:=yBF u1 d1;obtain⟨s,u3,e3,_,d3⟩:=yhH u2 [0,1,2,(-1),8] d2 (by simp);simp only[e1,e2,e3,zkH];exact⟨a,m,s,rfl,q1⟩
def yCS:Code:=(f38.body).getD .skip
def yCX:Env:=zkw TT [(69,ylN),(71,ykd),(86,ylP),(105,yis)] []
theorem yBb:FrOk prog ⟨yCX,13,fun _=>none⟩ yCS:=zkA mixed yd ⟨yu9,ysv,yvb,yqr,trivial⟩
abbrev ykz:List Par:= [.kp tYs .fz]
abbrev ykG:List OT:= [⟨false,tA,(.pr .fz (.pr (.pr .fz .fz) (.pr (.ow (.pr (.ow .fz) (.pr (.ow (.pr .fz .fz)) (.pr .fz (.ow .fz))))) (.pr .fz (.pr .fz (.pr .fz (.pr .fz (.pr .fz (.pr (.ow (.pr .fz .fz)) (.pr .fz (.pr .fz .fz)))))))))))⟩,⟨false,tI,.fz⟩]
def ycz (a0:List Int):Option (zaY ykG×zak ykz) :=let r1:=ydM a0;let r2:=ycT a0 14;bnd (yb5 r1 r2) fun r3 =>bnd (ybX r3.2.1) fun r4 =>some ((r3.1.1,r4.1.1,()),())
theorem yBV:ConOk prog 38 ⟨ykz,ykG,fun x=>ycz x.1⟩:=zkI (yBb) func38 ntmps38.symm fun x=>by kernel_rfl
def ypV:Con:=⟨ykz,ykG,fun x=>ycz x.1⟩
theorem yCJ:ConOk prog 38 ypV:=yBV
theorem yOf (a0:List Int) (hb:a0.length≤140737488355328): ∃(a:dA) (m:Int),ycz a0=some ((a,m,()),()):=by
 unfold ycz;obtain⟨h1,h2⟩:=yOi a0 14 (by omega) hb;obtain⟨a,u1,e1,q1,d1⟩:=yHq _ _ (yRX a0 hb) h1 (by omega);obtain⟨m,u2,e2,d2⟩:=yBF u1 d1;simp only[e1,e2,zkH];exact⟨a,m,rfl⟩
def yP8:Code:=(f81.body).getD .skip
def yQw:Env:=zkw TT [] []
theorem yHy:FrOk prog ⟨yQw,15,fun _=>none⟩ yP8:=zkA mixed yd trivial
abbrev yui:List Par:= [.rd tI,.rd tI,.rd tI]
abbrev yuC:List OT:= [⟨false,tB,.fz⟩]
def yAo (a0 a1 a2:Int):Option (zaY yuC×zak yui) :=bif(leb a1 a0)then some (((leb a0 a2),()),()) else some ((false,()),())
theorem yMn:ConOk prog 81 ⟨yui,yuC,fun x=>yAo x.1 x.2.1 x.2.2.1⟩:=zkI (yHy) func81 ntmps81.symm fun x=>by kernel_rfl
def yf (a0 a1 a2:Int):Bool :=bif(leb a1 a0)then (leb a0 a2) else false
def yL:Con:=⟨yui,yuC,fun x=>(fun n=>some ((n,()),())) (yf x.1 x.2.1 x.2.2.1)⟩
theorem yOv (a0 a1 a2:Int):yAo a0 a1 a2=(fun n=>some ((n,()),())) (yf a0 a1 a2):=zkV (p:=fun(n:Bool)=>((n,()),())) (zkG (p:=fun(n:Bool)=>((n,()),())) rfl rfl)
theorem yam:ConOk prog 81 yL:=(yMn).mono (fun x r _ h=>(yOv x.1 x.2.1 x.2.2.1).trans h)
theorem yaa (a b c:Int):yf a b c=ya a b c:=by kernel_rfl
def yRr:Code:=(f123.body).getD .skip
def yRF:Env:=zkw TT [(81,yL)] []
theorem yK4:FrOk prog ⟨yRF,11,fun _=>none⟩ yRr:=zkA mixed yd ⟨yam,trivial⟩
abbrev yw5:List Par:= [.rd tG]
abbrev yxj:List OT:= [⟨false,tB,.fz⟩]
def yBt (a0:dG):Option (zaY yxj×zak yw5) :=let r1:=yf a0.1 3 5;bif r1 then let r2:=yf a0.2 1 8;some ((r2,()),()) else some ((false,()),())
theorem yOR:ConOk prog 123 ⟨yw5,yxj,fun x=>yBt x.1⟩:=zkI (yK4) func123 ntmps123.symm fun x=>by kernel_rfl
def ydK (a0:dG):Bool :=let r1:=yf a0.1 3 5;bif r1 then let r2:=yf a0.2 1 8;r2 else false
def ylM:Con:=⟨yw5,yxj,fun x=>(fun n=>some ((n,()),())) (ydK x.1)⟩
theorem yQQ (a0:dG):yBt a0=(fun n=>some ((n,()),())) (ydK a0):=zkV (p:=fun(n:Bool)=>((n,()),())) (zkG (p:=fun(n:Bool)=>((n,()),())) rfl rfl)
theorem yu8:ConOk prog 123 ylM:=(yOR).mono (fun x r _ h=>(yQQ x.1).trans h)
theorem yLG (a:Int×Int):ydK a=ye a:=by kernel_rfl
def yP7:Code:=(f125.body).getD .skip
def yQv:Env:=zkw TT [(81,yL)] []
theorem yHx:FrOk prog ⟨yQv,26,fun _=>none⟩ yP7:=zkA mixed yd ⟨yam,trivial⟩
abbrev yuh:List Par:= [.rd tG,.rd tI,.rd tI]
abbrev yuB:List OT:= [⟨false,tB,.fz⟩]
def yAn (a0:dG) (a1 a2:Int):Option (zaY yuB×zak yuh) :=let r1:=yf a1 (-1) (i64.wrap (a0.1-1));bif r1 then let r2:=yf a2 0 a0.2;bif r2 then bif(!(a2==0))then some (((a1 !=(-1)),()),()) else some ((true,()),()) else some ((false,()),()) else some ((false,()),())
theorem yMm:ConOk prog 125 ⟨yuh,yuB,fun x=>yAn x.1 x.2.1 x.2.2.1⟩:=zkI (yHx) func125 ntmps125.symm fun x=>by kernel_rfl
def yd4 (a0:dG) (a1 a2:Int):Bool :=let r1:=yf a1 (-1) (i64.wrap (a0.1-1));bif r1 then let r2:=yf a2 0 a0.2;bif r2 then bif(!(a2==0))then (a1 !=(-1)) else true else false else false
def ypU:Con:=⟨yuh,yuB,fun x=>(fun n=>some ((n,()),())) (yd4 x.1 x.2.1 x.2.2.1)⟩
theorem yOu (a0:dG) (a1 a2:Int):yAn a0 a1 a2=(fun n=>some ((n,()),())) (yd4 a0 a1 a2):=zkV (p:=fun(n:Bool)=>((n,()),())) (zkG (p:=fun(n:Bool)=>((n,()),())) (zkG (p:=fun(n:Bool)=>((n,()),())) (zkG (p:=fun(n:Bool)=>((n,()),())) rfl rfl) rfl) rfl)
theorem yBk:ConOk prog 125 ypU:=(yMm).mono (fun x r _ h=>(yOu x.1 x.2.1 x.2.2.1).trans h)
def yGW:Code:=(f109.body).getD .skip
def yG9:Env:=zkw TT [(81,yL),(123,ylM)] []
theorem yCn:FrOk prog ⟨yG9,14,fun _=>none⟩ yGW:=zkA mixed yd ⟨yam,yu8,trivial⟩
abbrev ynM:List Par:= [.rd tG,.rd tI]
abbrev ynO:List OT:= [⟨false,tB,.fz⟩]
def ytP (a0:dG) (a1:Int):Option (zaY ynO×zak ynM) :=let r1:=ydK a0;bif r1 then let r2:=yf a1 0 (i64.wrap (a0.2-1));some ((r2,()),()) else some ((false,()),())
theorem yEg:ConOk prog 109 ⟨ynM,ynO,fun x=>ytP x.1 x.2.1⟩:=zkI (yCn) func109 ntmps109.symm fun x=>by kernel_rfl
def ybW (a0:dG) (a1:Int):Bool :=let r1:=ydK a0;bif r1 then let r2:=yf a1 0 (i64.wrap (a0.2-1));r2 else false
def ykK:Con:=⟨ynM,ynO,fun x=>(fun n=>some ((n,()),())) (ybW x.1 x.2.1)⟩
theorem yGb (a0:dG) (a1:Int):ytP a0 a1=(fun n=>some ((n,()),())) (ybW a0 a1):=zkV (p:=fun(n:Bool)=>((n,()),())) (zkG (p:=fun(n:Bool)=>((n,()),())) rfl rfl)
theorem ywj:ConOk prog 109 ykK:=(yEg).mono (fun x r _ h=>(yGb x.1 x.2.1).trans h)
theorem ySr (g:dG) (s:Int):ybW g s=ya0 g s:=by
 unfold ybW ya0;rw[yLG];cases hg:ye g
 ·rfl
 have:=yk.1 hg;rw[yaa,ycf,wr (by omega) (by omega)]; rfl
def yP6:Code:=(f135.body).getD .skip
def yQu:Env:=zkw TT [(81,yL)] []
theorem yHw:FrOk prog ⟨yQu,5,fun _=>none⟩ yP6:=zkA mixed yd ⟨yam,trivial⟩
abbrev yug:List Par:= [.rd tI]
abbrev yuA:List OT:= [⟨false,tB,.fz⟩]
def yAm (a0:Int):Option (zaY yuA×zak yug) :=let r1:=yf a0 0 65535;some ((r1,()),())
theorem yMl:ConOk prog 135 ⟨yug,yuA,fun x=>yAm x.1⟩:=zkI (yHw) func135 ntmps135.symm fun x=>by kernel_rfl
def yR (a0:Int):Bool :=let r1:=yf a0 0 65535;r1
def yzK:Con:=⟨yug,yuA,fun x=>(fun n=>some ((n,()),())) (yR x.1)⟩
theorem yOt (a0:Int):yAm a0=(fun n=>some ((n,()),())) (yR a0):=zkV (p:=fun(n:Bool)=>((n,()),())) rfl
theorem yPg:ConOk prog 135 yzK:=(yMl).mono (fun x r _ h=>(yOt x.1).trans h)
def yln:Code:=(f187.body).getD .skip
def yrB:Env:=zkw TT [(135,yzK)] []
theorem yFq:FrOk prog ⟨yrB,15,fun _=>none⟩ yln:=zkA mixed yd ⟨yPg,trivial⟩
def ywO:Nat→Option Seg:=fun _=>none
def ycB:Shape:=⟨[(5,false,[.br tI]),(6,false,[.int .i64]),(7,false,[.int .i64])],[],[]⟩
def yg5:Shape:=⟨[(5,false,[.br tI]),(6,false,[.int .i64]),(7,false,[.ci .i64 0])],[],[]⟩
def yg3:Shape:=⟨[],[],[]⟩
def yhb:Shape:=⟨[(2,false,[.bool])],[],[]⟩
def ylb (v0:List Int) (v1 v2:Int):Option ((ycB).X ⊕ ((yg3).X ⊕ (yhb).X)) :=bif(ltb v2 v1)then bif(inb v2 v0.length)then let r2:=yR (nth v0 v2 0);bif(!r2)then some (.inr (.inr (((false,()),()),(),()))) else some (.inl (((v0,()),(v1,()),((i64.wrap (v2+1)),()),()),(),())) else none else some (.inr (.inl ((),(),())))
def ybv (x:(ycB).X):=ylb x.1.1.1 x.1.2.1.1 x.1.2.2.1.1
def yth (x:(yg5).X):(ycB).X:=(((x.1.1.1,()),(x.1.2.1.1,()),(0,()),()),(),())
def yvv:Code:=(zd7 yln 64 52).getD .skip
theorem yE2:zd7 yln 64 13=some (.block 0 (.loop yvv)):=by kernel_rfl
theorem yGI (x:(ycB).X):zhu ⟨yrB,15,ywO⟩ 0 yvv 52 ycB yg3 yhb x=ybv x:=by kernel_rfl
def ytw (x:(yg5).X):Nat:=18446744073709551616
def yl6 (x:(yg5).X):Option ((yg3).X ⊕ (yhb).X):=zF ybv (ytw x) (yth x)
def ytV:Seg:=⟨yg5,yg3,yhb,yl6⟩
def yG1:Nat→Option Seg:=fun q=>bif Nat.beq q 13 then some ytV else ywO q
theorem yFr:FrOk prog ⟨yrB,15,yG1⟩ yln:=(yFq).loop (sg:=ytV) ycB yth (by decide) yE2 ybv ytw (by decide) (fun _=>rfl) (fun x r _ h=>h) yGI
abbrev ylw:List Par:= [.rd tL]
abbrev yr3:List OT:= [⟨false,tB,.fz⟩]
def yoi (a0:List Int):Option (zaY yr3×zak ylw) :=zkt (yl6 (((a0,()),((a0.length:Int),()),((),()),()),(),())) (fun y2 =>some ((true,()),())) (fun y2 =>some ((y2.1.1.1,()),()))
theorem yJg:ConOk prog 187 ⟨ylw,yr3,fun x=>yoi x.1⟩:=zkI (yFr) func187 ntmps187.symm fun x=>by kernel_rfl
def yal (a0:List Int):Bool:=a0.all yR
theorem yL2 (a0:List Int) (hk:zjx ylw (a0,())):yoi a0=(fun n=>some ((n,()),())) (yal a0):=by
 have hb:a0.length*8≤2^47:=hk.1.1
 have hl:yl6 (((a0,()),((a0.length:Int),()),((),()),()),(),())=some (bif a0.all yR then .inl ((),(),())else .inr (((false,()),()),(),())) :=
  zj9 (step:=ybv) a0 0 (fun i=>(((a0,()),((a0.length:Int),()),((i:Int),()),()),(),())) yR _ _ (fun i hi=>by
   simp only[ybv,ylb,zkR hi,zkS,zky (show(i:Int)<a0.length by omega),cond_true,wq ((i:Int)+1) (by omega) (by omega),Int.natCast_add,Int.natCast_one]
   cases yR (a0.getD i 0)<;>rfl) (by simp only[ybv,ylb,zk3 (Int.le_refl _),cond_false]) _ (by show _<18446744073709551616; omega)
 unfold yoi yal;rw[hl];cases a0.all yR<;>rfl
def ynS:Con:=⟨ylw,yr3,fun x=>(fun n=>some ((n,()),())) (yal x.1)⟩
theorem yz8:ConOk prog 187 ynS:=(yJg).mono (fun x r hk h=>(yL2 x.1 hk).trans h)
def yP4:Code:=(f129.body).getD .skip
def yQs:Env:=zkw TT [(187,ynS)] []
theorem yHu:FrOk prog ⟨yQs,15,fun _=>none⟩ yP4:=zkA mixed yd ⟨yz8,trivial⟩
abbrev yue:List Par:= [.rd tG,.rd tL]
abbrev yuy:List OT:= [⟨false,tB,.fz⟩]
def yAk (a0:dG) (a1:List Int):Option (zaY yuy×zak yue) :=bif((a1.length:Int)==(i64.wrap (a0.1-1)))then let r1:=yal a1;some ((r1,()),()) else some ((false,()),())
theorem yMj:ConOk prog 129 ⟨yue,yuy,fun x=>yAk x.1 x.2.1⟩:=zkI (yHu) func129 ntmps129.symm fun x=>by kernel_rfl
def yiV (a0:dG) (a1:List Int):Bool :=bif((a1.length:Int)==(i64.wrap (a0.1-1)))then let r1:=yal a1;r1 else false
def yzJ:Con:=⟨yue,yuy,fun x=>(fun n=>some ((n,()),())) (yiV x.1 x.2.1)⟩
theorem yOr (a0:dG) (a1:List Int):yAk a0 a1=(fun n=>some ((n,()),())) (yiV a0 a1):=zkV (p:=fun(n:Bool)=>((n,()),())) (zkG (p:=fun(n:Bool)=>((n,()),())) rfl rfl)
theorem yPf:ConOk prog 129 yzJ:=(yMj).mono (fun x r _ h=>(yOr x.1 x.2.1).trans h)
def ylm:Code:=(f126.body).getD .skip
def yrA:Env:=zkw TT [(109,ykK),(129,yzJ)] []
theorem yFl:FrOk prog ⟨yrA,44,fun _=>none⟩ ylm:=zkA mixed yd ⟨ywj,yPf,trivial⟩
def ywN:Nat→Option Seg:=fun _=>none
def ybe:Shape:=⟨[(1,false,[.ptr 0 0]),(6,false,[.br tW]),(7,false,[.int .i64]),(8,false,[.int .i64])],[(0,[.int .i64,.int .i64,.int .i64,.br tM,.int .i64,.int .i64,.int .i64,.int .i64,.int .i64,.br tW,.int .i64,.bool,.bool])],[]⟩
def yeq:Shape:=⟨[(1,false,[.ptr 0 0]),(6,false,[.br tW]),(7,false,[.int .i64]),(8,false,[.ci .i64 0])],[(0,[.int .i64,.int .i64,.int .i64,.br tM,.int .i64,.int .i64,.int .i64,.int .i64,.int .i64,.br tW,.int .i64,.bool,.bool])],[]⟩
def yee:Shape:=⟨[],[],[]⟩
def yez:Shape:=⟨[(2,false,[.bool])],[],[]⟩
abbrev ykR (v0:List dW) (v1 v2:Int) (v3:dA):(ybe).X:=((((),()),(v0,()),(v1,()),(v2,()),()),((v3.1,v3.2.1.1,v3.2.1.2,v3.2.2.1,v3.2.2.2.1,v3.2.2.2.2.1,v3.2.2.2.2.2.1,v3.2.2.2.2.2.2.1,v3.2.2.2.2.2.2.2.1,v3.2.2.2.2.2.2.2.2.1,v3.2.2.2.2.2.2.2.2.2.1,v3.2.2.2.2.2.2.2.2.2.2.1,v3.2.2.2.2.2.2.2.2.2.2.2,()),()),())
abbrev yDZ (v0:List dW) (v1:Int) (v2:dA):(yeq).X:=((((),()),(v0,()),(v1,()),((),()),()),((v2.1,v2.2.1.1,v2.2.1.2,v2.2.2.1,v2.2.2.2.1,v2.2.2.2.2.1,v2.2.2.2.2.2.1,v2.2.2.2.2.2.2.1,v2.2.2.2.2.2.2.2.1,v2.2.2.2.2.2.2.2.2.1,v2.2.2.2.2.2.2.2.2.2.1,v2.2.2.2.2.2.2.2.2.2.2.1,v2.2.2.2.2.2.2.2.2.2.2.2,()),()),())
abbrev yDQ  :(yee).X:=((),(),())
abbrev yD8 (v0:Bool):(yez).X:=(((v0,()),()),(),())
def yla (v0:List dW) (v1 v2 v3 v4 v5:Int) (v6:List dM) (v7 v8 v9 v10 v11:Int) (v12:List dW) (v13:Int) (v14 v15:Bool):Option ((ybe).X ⊕ ((yee).X ⊕ (yez).X)) :=bif(ltb v2 v1)then bif(inb v2 v0.length)then let r4:=ybW (v4,v5) ((nth v0 v2 (0,[])).1);bif(!(!r4))then bif(ltb 0 v2)then bif(inb (i64.wrap (v2-1)) v12.length)then bif(!(leb ((nth v0 v2 (0,[])).1) ((nth v12 (i64.wrap (v2-1)) (0,[])).1)))then let r5:=yiV (v4,v5) ((nth v0 v2 (0,[])).2);bif(!r5)then some (.inr (.inr (((false,()),()),(),()))) else some (.inl ((((),()),(v0,()),(v1,()),((i64.wrap (v2+1)),()),()),((v3,v4,v5,v6,v7,v8,v9,v10,v11,v12,v13,v14,v15,()),()),())) else some (.inr (.inr (((false,()),()),(),()))) else none else let r6:=yiV (v4,v5) ((nth v0 v2 (0,[])).2);bif(!r6)then some (.inr (.inr (((false,()),()),(),()))) else some (.inl ((((),()),(v0,()),(v1,()),((i64.wrap (v2+1)),()),()),((v3,v4,v5,v6,v7,v8,v9,v10,v11,v12,v13,v14,v15,()),()),())) else some (.inr (.inr (((false,()),()),(),()))) else none else some (.inr (.inl ((),(),())))
def ybu (x:(ybe).X):=yla x.1.2.1.1 x.1.2.2.1.1 x.1.2.2.2.1.1 x.2.1.1.1 x.2.1.1.2.1 x.2.1.1.2.2.1 x.2.1.1.2.2.2.1 x.2.1.1.2.2.2.2.1 x.2.1.1.2.2.2.2.2.1 x.2.1.1.2.2.2.2.2.2.1 x.2.1.1.2.2.2.2.2.2.2.1 x.2.1.1.2.2.2.2.2.2.2.2.1 x.2.1.1.2.2.2.2.2.2.2.2.2.1 x.2.1.1.2.2.2.2.2.2.2.2.2.2.1 x.2.1.1.2.2.2.2.2.2.2.2.2.2.2.1 x.2.1.1.2.2.2.2.2.2.2.2.2.2.2.2.1
def ytg (x:(yeq).X):(ybe).X:=((((),()),(x.1.2.1.1,()),(x.1.2.2.1.1,()),(0,()),()),((x.2.1.1.1,x.2.1.1.2.1,x.2.1.1.2.2.1,x.2.1.1.2.2.2.1,x.2.1.1.2.2.2.2.1,x.2.1.1.2.2.2.2.2.1,x.2.1.1.2.2.2.2.2.2.1,x.2.1.1.2.2.2.2.2.2.2.1,x.2.1.1.2.2.2.2.2.2.2.2.1,x.2.1.1.2.2.2.2.2.2.2.2.2.1,x.2.1.1.2.2.2.2.2.2.2.2.2.2.1,x.2.1.1.2.2.2.2.2.2.2.2.2.2.2.1,x.2.1.1.2.2.2.2.2.2.2.2.2.2.2.2.1,()),()),())
def yvu:Code:=(zd7 ylm 64 52).getD .skip
theorem yE1:zd7 ylm 64 13=some (.block 0 (.loop yvu)):=by kernel_rfl
theorem yGH (x:(ybe).X):zhu ⟨yrA,44,ywN⟩ 0 yvu 52 ybe yee yez x=ybu x:=by kernel_rfl
def ytv (x:(yeq).X):Nat:=18446744073709551616
def yl5 (x:(yeq).X):Option ((yee).X ⊕ (yez).X):=zF ybu (ytv x) (ytg x)
def ytU:Seg:=⟨yeq,yee,yez,yl5⟩
def yG0:Nat→Option Seg:=fun q=>bif Nat.beq q 13 then some ytU else ywN q
theorem yFm:FrOk prog ⟨yrA,44,yG0⟩ ylm:=(yFl).loop (sg:=ytU) ybe ytg (by decide) yE1 ybu ytv (by decide) (fun _=>rfl) (fun x r _ h=>h) yGH
abbrev yhq:List Par:= [.rd tA]
abbrev ylC:List OT:= [⟨false,tB,.fz⟩]
def yoh (a0:dA):Option (zaY ylC×zak yhq) :=zkt (yl5 ((((),()),(a0.2.2.2.2.2.2.2.2.1,()),((a0.2.2.2.2.2.2.2.2.1.length:Int),()),((),()),()),((a0.1,a0.2.1.1,a0.2.1.2,a0.2.2.1,a0.2.2.2.1,a0.2.2.2.2.1,a0.2.2.2.2.2.1,a0.2.2.2.2.2.2.1,a0.2.2.2.2.2.2.2.1,a0.2.2.2.2.2.2.2.2.1,a0.2.2.2.2.2.2.2.2.2.1,a0.2.2.2.2.2.2.2.2.2.2.1,a0.2.2.2.2.2.2.2.2.2.2.2,()),()),())) (fun y6 =>some ((true,()),())) (fun y6 =>some ((y6.1.1.1,()),()))
theorem yJc:ConOk prog 126 ⟨yhq,ylC,fun x=>yoh x.1⟩:=zkI (yFm) func126 ntmps126.symm fun x=>by kernel_rfl
def yhM (a0:dA):Bool:=yaB a0.2.1 a0.2.2.2.2.2.2.2.2.1
def ysA (a0:dA):Bool:=ye a0.2.1
theorem yLJ (l:List Int):yal l=l.all isW:=by
 unfold yal;rw[show yR=isW from funext fun x=>by unfold yR; rw[yaa,ycf]; rfl]
theorem yLY (a0:dA) (hk:zjx yhq (a0,())) (hq:ysA a0=true):yoh a0=(fun n=>some ((n,()),())) (yhM a0):=by
 have hb:a0.2.2.2.2.2.2.2.2.1.length*32≤2^47:=hk.1.2.2.2.2.2.2.2.2.1.1;have hg:=yk.1 hq;have hq':ye a0.2.1=true:=hq
 have h1:yl5 (yDZ a0.2.2.2.2.2.2.2.2.1 a0.2.2.2.2.2.2.2.2.1.length a0)=some (bif(List.range a0.2.2.2.2.2.2.2.2.1.length).any (yfK a0.2.1 a0.2.2.2.2.2.2.2.2.1)then .inr (yD8 false)else .inl yDQ) :=
  zji (step:=ybu) (fun i=>ykR a0.2.2.2.2.2.2.2.2.1 a0.2.2.2.2.2.2.2.2.1.length i a0) a0.2.2.2.2.2.2.2.2.1.length (yfK a0.2.1 a0.2.2.2.2.2.2.2.2.1) _ _ (fun i hi=>by
   simp only[ybu,ykR,yla,zky (show(i:Int)<a0.2.2.2.2.2.2.2.2.1.length by omega),cond_true,wq ((i:Int)+1) (by omega) (by omega),Int.natCast_add,Int.natCast_one,Int.toNat_natCast,zkR hi,zkX,ybW,yiV,yLG,hq',yaa,ycf,yLJ,wq (a0.2.1.2-1) (by omega) (by omega),wq (a0.2.1.1-1) (by omega) (by omega),yfK,bne];rcases Nat.eq_zero_or_pos i with rfl | h0
   ·cases(leb 0 (nth a0.2.2.2.2.2.2.2.2.1 ((0:Nat):Int) (0,[])).1&&leb (nth a0.2.2.2.2.2.2.2.2.1 ((0:Nat):Int) (0,[])).1 (a0.2.1.2-1))<;>cases(((nth a0.2.2.2.2.2.2.2.2.1 ((0:Nat):Int) (0,[])).2.length:Int)==a0.2.1.1-1)<;>cases((nth a0.2.2.2.2.2.2.2.2.1 ((0:Nat):Int) (0,[])).2.all isW)<;>rfl
   ·rw[show i64.wrap ((i:Int)-1)=((i-1:Nat):Int)by rw[wr (by omega) (by omega)]; omega,zkR (show i-1<a0.2.2.2.2.2.2.2.2.1.length by omega),zky (show(0:Int)<i by omega),decide_eq_true h0]
    cases(leb 0 (nth a0.2.2.2.2.2.2.2.2.1 (i:Int) (0,[])).1&&leb (nth a0.2.2.2.2.2.2.2.2.1 (i:Int) (0,[])).1 (a0.2.1.2-1))<;>cases(((nth a0.2.2.2.2.2.2.2.2.1 (i:Int) (0,[])).2.length:Int)==a0.2.1.1-1)<;>cases((nth a0.2.2.2.2.2.2.2.2.1 (i:Int) (0,[])).2.all isW)<;>cases leb (nth a0.2.2.2.2.2.2.2.2.1 (i:Int) (0,[])).1 (nth a0.2.2.2.2.2.2.2.2.1 ((i-1:Nat):Int) (0,[])).1<;>rfl) (by simp only[ybu,ykR,yla,zk3 (Int.le_refl _),cond_false]) _ (by show _<18446744073709551616; omega)
 unfold yoh yhM yaB;rw[h1];cases(List.range a0.2.2.2.2.2.2.2.2.1.length).any (yfK a0.2.1 a0.2.2.2.2.2.2.2.2.1)<;>rfl
def ylY (a0:dA):Option (zaY ylC×zak yhq):=bif ysA a0 then(fun n=>some ((n,()),())) (yhM a0)else none
theorem yM6 (a0:dA) (h:ysA a0=true):ylY a0=(fun n=>some ((n,()),())) (yhM a0):=by unfold ylY; rw[h]; rfl
def yxU:Con:=⟨yhq,ylC,fun x=>ylY x.1⟩
theorem yMT:ConOk prog 126 yxU:=(yJc).mono (fun x r hk h=>zkY h (fun hq=>yLY x.1 hk hq))
def yP5:Code:=(f156.body).getD .skip
def yQt:Env:=zkw TT [(81,yL)] []
theorem yHv:FrOk prog ⟨yQt,11,fun _=>none⟩ yP5:=zkA mixed yd ⟨yam,trivial⟩
abbrev yuf:List Par:= [.rd tM,.rd tI]
abbrev yuz:List OT:= [⟨false,tB,.fz⟩]
def yAl (a0:dM) (a1:Int):Option (zaY yuz×zak yuf) :=let r1:=yf a1 0 (i64.wrap ((a0.1.length:Int)-1));some ((r1,()),())
theorem yMk:ConOk prog 156 ⟨yuf,yuz,fun x=>yAl x.1 x.2.1⟩:=zkI (yHv) func156 ntmps156.symm fun x=>by kernel_rfl
def yaT (a0:dM) (a1:Int):Bool :=let r1:=yf a1 0 (i64.wrap ((a0.1.length:Int)-1));r1
def yj9:Con:=⟨yuf,yuz,fun x=>(fun n=>some ((n,()),())) (yaT x.1 x.2.1)⟩
theorem yOs (a0:dM) (a1:Int):yAl a0 a1=(fun n=>some ((n,()),())) (yaT a0 a1):=zkV (p:=fun(n:Bool)=>((n,()),())) rfl
theorem yss:ConOk prog 156 yj9:=(yMk).mono (fun x r _ h=>(yOs x.1 x.2.1).trans h)
def yRs:Code:=(f186.body).getD .skip
def yRG:Env:=zkw TT [(187,ynS)] []
theorem yK9:FrOk prog ⟨yRG,10,fun _=>none⟩ yRs:=zkA mixed yd ⟨yz8,trivial⟩
abbrev yw6:List Par:= [.rd tL]
abbrev yxl:List OT:= [⟨false,tB,.fz⟩]
def yBu (a0:List Int):Option (zaY yxl×zak yw6) :=bif(leb (a0.length:Int) 12)then let r1:=yal a0;some ((r1,()),()) else some ((false,()),())
theorem yOT:ConOk prog 186 ⟨yw6,yxl,fun x=>yBu x.1⟩:=zkI (yK9) func186 ntmps186.symm fun x=>by kernel_rfl
def yfr (a0:List Int):Bool :=bif(leb (a0.length:Int) 12)then let r1:=yal a0;r1 else false
def ysh:Con:=⟨yw6,yxl,fun x=>(fun n=>some ((n,()),())) (yfr x.1)⟩
theorem yQS (a0:List Int):yBu a0=(fun n=>some ((n,()),())) (yfr a0):=zkV (p:=fun(n:Bool)=>((n,()),())) (zkG (p:=fun(n:Bool)=>((n,()),())) rfl rfl)
theorem yB7:ConOk prog 186 ysh:=(yOT).mono (fun x r _ h=>(yQS x.1).trans h)
theorem yAG:yfr=yO:=funext fun s=>by
 unfold yfr yO yal;rw[show yR=isW from funext fun x=>by unfold yR; rw[yaa,ycf]; rfl];cases leb (s.length:Int) 12<;>rfl
def ybE:Code:=(f127.body).getD .skip
def yeX:Env:=zkw TT [(81,yL),(156,yj9),(186,ysh)] []
theorem yK5:FrOk prog ⟨yeX,76,fun _=>none⟩ ybE:=zkA mixed yd ⟨yam,yss,yB7,trivial⟩
def yAM:Nat→Option Seg:=fun _=>none
def ych:Shape:=⟨[(1,false,[.ptr 0 0]),(10,false,[.br tL]),(11,false,[.int .i64]),(12,false,[.int .i64])],[(0,[.br tL,.br tW,.bool,.br tI])],[]⟩
def yga:Shape:=⟨[(1,false,[.ptr 0 0]),(10,false,[.br tL]),(11,false,[.int .i64]),(12,false,[.ci .i64 0])],[(0,[.br tL,.br tW,.bool,.br tI])],[]⟩
def yfW:Shape:=⟨[(1,false,[.ptr 0 0])],[(0,[.br tL,.br tW,.bool,.br tI])],[]⟩
def ygp:Shape:=⟨[(2,false,[.bool])],[],[]⟩
abbrev yn0 (v0:List (List Int)) (v1 v2:Int) (v3:dM):(ych).X:=((((),()),(v0,()),(v1,()),(v2,()),()),((v3.1,v3.2.1,v3.2.2.1,v3.2.2.2,()),()),())
abbrev yIr (v0:List (List Int)) (v1:Int) (v2:dM):(yga).X:=((((),()),(v0,()),(v1,()),((),()),()),((v2.1,v2.2.1,v2.2.2.1,v2.2.2.2,()),()),())
abbrev yIi (v0:dM):(yfW).X:=((((),()),()),((v0.1,v0.2.1,v0.2.2.1,v0.2.2.2,()),()),())
abbrev yIE (v0:Bool):(ygp).X:=(((v0,()),()),(),())
def yov (v0:List (List Int)) (v1 v2:Int) (v3:List (List Int)) (v4:List dW) (v5:Bool) (v6:List Int):Option ((ych).X ⊕ ((yfW).X ⊕ (ygp).X)) :=bif(ltb v2 v1)then bif(inb v2 v0.length)then let r2:=yfr (nth v0 v2 []);bif(!r2)then some (.inr (.inr (((false,()),()),(),()))) else some (.inl ((((),()),(v0,()),(v1,()),((i64.wrap (v2+1)),()),()),((v3,v4,v5,v6,()),()),())) else none else some (.inr (.inl ((((),()),()),((v3,v4,v5,v6,()),()),())))
def ycF (x:(ych).X):=yov x.1.2.1.1 x.1.2.2.1.1 x.1.2.2.2.1.1 x.2.1.1.1 x.2.1.1.2.1 x.2.1.1.2.2.1 x.2.1.1.2.2.2.1
def yx8 (x:(yga).X):(ych).X:=((((),()),(x.1.2.1.1,()),(x.1.2.2.1.1,()),(0,()),()),((x.2.1.1.1,x.2.1.1.2.1,x.2.1.1.2.2.1,x.2.1.1.2.2.2.1,()),()),())
def yzw:Code:=(zd7 ybE 64 52).getD .skip
theorem yKI:zd7 ybE 64 13=some (.block 0 (.loop yzw)):=by kernel_rfl
theorem yNc (x:(ych).X):zhu ⟨yeX,76,yAM⟩ 0 yzw 52 ych yfW ygp x=ycF x:=by kernel_rfl
def yym (x:(yga).X):Nat:=18446744073709551616
def yo7 (x:(yga).X):Option ((yfW).X ⊕ (ygp).X):=zF ycF (yym x) (yx8 x)
def yy1:Seg:=⟨yga,yfW,ygp,yo7⟩
def yru:Nat→Option Seg:=fun q=>bif Nat.beq q 13 then some yy1 else yAM q
theorem yK6:FrOk prog ⟨yeX,76,yru⟩ ybE:=(yK5).loop (sg:=yy1) ych yx8 (by decide) yKI ycF yym (by decide) (fun _=>rfl) (fun x r _ h=>h) yNc
def yci:Shape:=⟨[(1,false,[.ptr 0 0]),(21,false,[.br tW]),(22,false,[.int .i64]),(23,false,[.int .i64])],[(0,[.br tL,.br tW,.bool,.br tI])],[]⟩
def ygb:Shape:=⟨[(1,false,[.ptr 0 0]),(21,false,[.br tW]),(22,false,[.int .i64]),(23,false,[.ci .i64 0])],[(0,[.br tL,.br tW,.bool,.br tI])],[]⟩
def yfX:Shape:=⟨[(1,false,[.ptr 0 0])],[(0,[.br tL,.br tW,.bool,.br tI])],[]⟩
def ygq:Shape:=⟨[(2,false,[.bool])],[],[]⟩
abbrev yn1 (v0:List dW) (v1 v2:Int) (v3:dM):(yci).X:=((((),()),(v0,()),(v1,()),(v2,()),()),((v3.1,v3.2.1,v3.2.2.1,v3.2.2.2,()),()),())
abbrev yIs (v0:List dW) (v1:Int) (v2:dM):(ygb).X:=((((),()),(v0,()),(v1,()),((),()),()),((v2.1,v2.2.1,v2.2.2.1,v2.2.2.2,()),()),())
abbrev yIj (v0:dM):(yfX).X:=((((),()),()),((v0.1,v0.2.1,v0.2.2.1,v0.2.2.2,()),()),())
abbrev yIF (v0:Bool):(ygq).X:=(((v0,()),()),(),())
def yow (v0:List dW) (v1 v2:Int) (v3:List (List Int)) (v4:List dW) (v5:Bool) (v6:List Int):Option ((yci).X ⊕ ((yfX).X ⊕ (ygq).X)) :=bif(ltb v2 v1)then bif(inb v2 v0.length)then let r6:=yaT (v3,v4,v5,v6) ((nth v0 v2 (0,[])).1);bif(!(!r6))then let r7:=yfr ((nth v0 v2 (0,[])).2);bif(!r7)then some (.inr (.inr (((false,()),()),(),()))) else some (.inl ((((),()),(v0,()),(v1,()),((i64.wrap (v2+1)),()),()),((v3,v4,v5,v6,()),()),())) else some (.inr (.inr (((false,()),()),(),()))) else none else some (.inr (.inl ((((),()),()),((v3,v4,v5,v6,()),()),())))
def ycG (x:(yci).X):=yow x.1.2.1.1 x.1.2.2.1.1 x.1.2.2.2.1.1 x.2.1.1.1 x.2.1.1.2.1 x.2.1.1.2.2.1 x.2.1.1.2.2.2.1
def yx9 (x:(ygb).X):(yci).X:=((((),()),(x.1.2.1.1,()),(x.1.2.2.1.1,()),(0,()),()),((x.2.1.1.1,x.2.1.1.2.1,x.2.1.1.2.2.1,x.2.1.1.2.2.2.1,()),()),())
def yzx:Code:=(zd7 ybE 64 116).getD .skip
theorem yKJ:zd7 ybE 64 29=some (.block 2 (.loop yzx)):=by kernel_rfl
theorem yNd (x:(yci).X):zhu ⟨yeX,76,yru⟩ 2 yzx 116 yci yfX ygq x=ycG x:=by kernel_rfl
def yyn (x:(ygb).X):Nat:=18446744073709551616
def yo8 (x:(ygb).X):Option ((yfX).X ⊕ (ygq).X):=zF ycG (yyn x) (yx9 x)
def yy2:Seg:=⟨ygb,yfX,ygq,yo8⟩
def yrv:Nat→Option Seg:=fun q=>bif Nat.beq q 29 then some yy2 else yru q
theorem yK7:FrOk prog ⟨yeX,76,yrv⟩ ybE:=(yK6).loop (sg:=yy2) yci yx9 (by decide) yKJ ycG yyn (by decide) (fun _=>rfl) (fun x r _ h=>h) yNd
def ycj:Shape:=⟨[(1,false,[.ptr 0 0]),(40,false,[.br tI]),(41,false,[.int .i64]),(42,false,[.int .i64])],[(0,[.br tL,.br tW,.bool,.br tI])],[]⟩
def ygc:Shape:=⟨[(1,false,[.ptr 0 0]),(40,false,[.br tI]),(41,false,[.int .i64]),(42,false,[.ci .i64 0])],[(0,[.br tL,.br tW,.bool,.br tI])],[]⟩
def yfY:Shape:=⟨[(1,false,[.ptr 0 0])],[(0,[.br tL,.br tW,.bool,.br tI])],[]⟩
def ygr:Shape:=⟨[(2,false,[.bool])],[],[]⟩
abbrev yn2 (v0:List Int) (v1 v2:Int) (v3:dM):(ycj).X:=((((),()),(v0,()),(v1,()),(v2,()),()),((v3.1,v3.2.1,v3.2.2.1,v3.2.2.2,()),()),())
abbrev yIt (v0:List Int) (v1:Int) (v2:dM):(ygc).X:=((((),()),(v0,()),(v1,()),((),()),()),((v2.1,v2.2.1,v2.2.2.1,v2.2.2.2,()),()),())
abbrev yIk (v0:dM):(yfY).X:=((((),()),()),((v0.1,v0.2.1,v0.2.2.1,v0.2.2.2,()),()),())
abbrev yIG (v0:Bool):(ygr).X:=(((v0,()),()),(),())
def yox (v0:List Int) (v1 v2:Int) (v3:List (List Int)) (v4:List dW) (v5:Bool) (v6:List Int):Option ((ycj).X ⊕ ((yfY).X ⊕ (ygr).X)) :=bif(ltb v2 v1)then bif(inb v2 v0.length)then let r10:=yaT (v3,v4,v5,v6) (nth v0 v2 0);bif(!(!r10))then bif(ltb 0 v2)then bif(inb (i64.wrap (v2-1)) v6.length)then bif(leb (nth v0 v2 0) (nth v6 (i64.wrap (v2-1)) 0))then some (.inr (.inr (((false,()),()),(),()))) else some (.inl ((((),()),(v0,()),(v1,()),((i64.wrap (v2+1)),()),()),((v3,v4,v5,v6,()),()),())) else none else some (.inl ((((),()),(v0,()),(v1,()),((i64.wrap (v2+1)),()),()),((v3,v4,v5,v6,()),()),())) else some (.inr (.inr (((false,()),()),(),()))) else none else some (.inr (.inl ((((),()),()),((v3,v4,v5,v6,()),()),())))
def ycH (x:(ycj).X):=yox x.1.2.1.1 x.1.2.2.1.1 x.1.2.2.2.1.1 x.2.1.1.1 x.2.1.1.2.1 x.2.1.1.2.2.1 x.2.1.1.2.2.2.1
def yya (x:(ygc).X):(ycj).X:=((((),()),(x.1.2.1.1,()),(x.1.2.2.1.1,()),(0,()),()),((x.2.1.1.1,x.2.1.1.2.1,x.2.1.1.2.2.1,x.2.1.1.2.2.2.1,()),()),())
def yzy:Code:=(zd7 ybE 64 244).getD .skip
theorem yKK:zd7 ybE 64 61=some (.block 4 (.loop yzy)):=by kernel_rfl
theorem yNe (x:(ycj).X):zhu ⟨yeX,76,yrv⟩ 4 yzy 244 ycj yfY ygr x=ycH x:=by kernel_rfl
def yyo (x:(ygc).X):Nat:=18446744073709551616
def yo9 (x:(ygc).X):Option ((yfY).X ⊕ (ygr).X):=zF ycH (yyo x) (yya x)
def yy3:Seg:=⟨ygc,yfY,ygr,yo9⟩
def yNK:Nat→Option Seg:=fun q=>bif Nat.beq q 61 then some yy3 else yrv q
theorem yK8:FrOk prog ⟨yeX,76,yNK⟩ ybE:=(yK7).loop (sg:=yy3) ycj yya (by decide) yKK ycH yyo (by decide) (fun _=>rfl) (fun x r _ h=>h) yNe
abbrev ypl:List Par:= [.rd tM]
abbrev yxk:List OT:= [⟨false,tB,.fz⟩]
def ysG (a0:dM):Option (zaY yxk×zak ypl) :=zkt (yo7 ((((),()),(a0.1,()),((a0.1.length:Int),()),((),()),()),((a0.1,a0.2.1,a0.2.2.1,a0.2.2.2,()),()),())) (fun y2 =>zkt (yo8 ((((),()),(y2.2.1.1.2.1,()),((y2.2.1.1.2.1.length:Int),()),((),()),()),((y2.2.1.1.1,y2.2.1.1.2.1,y2.2.1.1.2.2.1,y2.2.1.1.2.2.2.1,()),()),())) (fun y7 =>zkt (yo9 ((((),()),(y7.2.1.1.2.2.2.1,()),((y7.2.1.1.2.2.2.1.length:Int),()),((),()),()),((y7.2.1.1.1,y7.2.1.1.2.1,y7.2.1.1.2.2.1,y7.2.1.1.2.2.2.1,()),()),())) (fun y10 =>let r12:=yf (y10.2.1.1.1.length:Int) 1 20;bif r12 then some (((leb (y10.2.1.1.2.1.length:Int) 60),()),()) else some ((false,()),())) (fun y10 =>some ((y10.1.1.1,()),()))) (fun y7 =>some ((y7.1.1.1,()),()))) (fun y2 =>some ((y2.1.1.1,()),()))
theorem yOS:ConOk prog 127 ⟨ypl,yxk,fun x=>ysG x.1⟩:=zkI (yK8) func127 ntmps127.symm fun x=>by kernel_rfl
def yaQ (a0:dM):Bool:=yq a0
theorem yQR (a0:dM) (hk:zjx ypl (a0,())):ysG a0=(fun n=>some ((n,()),())) (yaQ a0):=by
 have hb1:a0.1.length*24≤2^47:=hk.1.1.1;have hb2:a0.2.1.length*32≤2^47:=hk.1.2.1.1;have hb3:a0.2.2.2.length*8≤2^47:=hk.1.2.2.2.1
 have h1:yo7 (yIr a0.1 a0.1.length a0)=some (bif a0.1.all yO then .inl (yIi a0)else .inr (yIE false)) :=
  zj9 (step:=ycF) a0.1 [] (fun i=>yn0 a0.1 a0.1.length i a0) yO _ _ (fun i hi=>by
   simp only[ycF,yn0,yov,zky (show(i:Int)<a0.1.length by omega),cond_true,wq ((i:Int)+1) (by omega) (by omega),Int.natCast_add,Int.natCast_one,Int.toNat_natCast,zkR hi,zkS,yAG]
   cases yO (a0.1.getD i [])<;>rfl) (by simp only[ycF,yn0,yov,zk3 (Int.le_refl _),cond_false]) _ (by show _<18446744073709551616; omega)
 have h2:yo8 (yIs a0.2.1 a0.2.1.length a0)=some (bif a0.2.1.all (yqP a0.1.length)then .inl (yIj a0)else .inr (yIF false)) :=
  zj9 (step:=ycG) a0.2.1 (0,[]) (fun i=>yn1 a0.2.1 a0.2.1.length i a0) (yqP a0.1.length) _ _ (fun i hi=>by
   simp only[ycG,yn1,yow,zky (show(i:Int)<a0.2.1.length by omega),cond_true,wq ((i:Int)+1) (by omega) (by omega),Int.natCast_add,Int.natCast_one,Int.toNat_natCast,zkR hi,zkS,yAG,yaT,yaa,ygB (show a0.1.length≤1152921504606846976 by omega),yqP]
   cases inb (a0.2.1.getD i (0,[])).1 a0.1.length<;>cases yO (a0.2.1.getD i (0,[])).2<;>rfl) (by simp only[ycG,yn1,yow,zk3 (Int.le_refl _),cond_false]) _ (by show _<18446744073709551616; omega)
 have h3:yo9 (yIt a0.2.2.2 a0.2.2.2.length a0)=some (bif(List.range a0.2.2.2.length).any (yzt a0.1.length a0.2.2.2)then .inr (yIG false)else .inl (yIk a0)) :=
  zji (step:=ycH) (fun i=>yn2 a0.2.2.2 a0.2.2.2.length i a0) a0.2.2.2.length (yzt a0.1.length a0.2.2.2) _ _ (fun i hi=>by
   simp only[ycH,yn2,yox,zky (show(i:Int)<a0.2.2.2.length by omega),cond_true,wq ((i:Int)+1) (by omega) (by omega),Int.natCast_add,Int.natCast_one,Int.toNat_natCast,zkR hi,zkS,yaT,yaa,ygB (show a0.1.length≤1152921504606846976 by omega),yzt];rcases Nat.eq_zero_or_pos i with rfl | h0
   ·cases inb (a0.2.2.2.getD 0 0) a0.1.length<;>rfl
   ·rw[show i64.wrap ((i:Int)-1)=((i-1:Nat):Int)by rw[wr (by omega) (by omega)]; omega,zkR (show i-1<a0.2.2.2.length by omega),zkS,zky (show(0:Int)<i by omega),decide_eq_true h0]
    cases inb (a0.2.2.2.getD i 0) a0.1.length<;>cases leb (a0.2.2.2.getD i 0) (a0.2.2.2.getD (i-1) 0)<;>rfl) (by simp only[ycH,yn2,yox,zk3 (Int.le_refl _),cond_false]) _ (by show _<18446744073709551616; omega)
 unfold ysG yaQ yq;rw[h1];cases a0.1.all yO
 ·rfl
 simp only[cond_true,zkN,h2];cases a0.2.1.all (yqP a0.1.length)
 ·rfl
 simp only[cond_true,zkN,h3,yPF,yaa,ycf];cases ylJ a0.1.length a0.2.2.2
 ·rfl
 simp only[Bool.not_true,cond_false,zkN];cases leb 1 (a0.1.length:Int)<;>cases leb (a0.1.length:Int) 20<;>rfl
def yhD:Con:=⟨ypl,yxk,fun x=>(fun n=>some ((n,()),())) (yaQ x.1)⟩
theorem ynt:ConOk prog 127 yhD:=(yOS).mono (fun x r hk h=>(yQR x.1 hk).trans h)
def yNv:Code:=(f128.body).getD .skip
def yNY:Env:=zkw TT [] []
theorem yFo:FrOk prog ⟨yNY,6,fun _=>none⟩ yNv:=zkA mixed yd trivial
abbrev yrL:List Par:= [.rd tG]
abbrev yr1:List OT:= [⟨false,tI,.fz⟩]
def yyU (a0:dG):Option (zaY yr1×zak yrL) :=some (((i64.wrap (6+a0.2)),()),())
theorem yJe:ConOk prog 128 ⟨yrL,yr1,fun x=>yyU x.1⟩:=zkI (yFo) func128 ntmps128.symm fun x=>by kernel_rfl
def ylT (a0:dG):Int :=(i64.wrap (6+a0.2))
def yxV:Con:=⟨yrL,yr1,fun x=>(fun n=>some ((n,()),())) (ylT x.1)⟩
theorem yL0 (a0:dG):yyU a0=(fun n=>some ((n,()),())) (ylT a0):=zkV (p:=fun(n:Int)=>((n,()),())) rfl
theorem yMU:ConOk prog 128 yxV:=(yJe).mono (fun x r _ h=>(yL0 x.1).trans h)
def yoK:Code:=(f55.body).getD .skip
def ywW:Env:=zkw TT [(81,yL),(123,ylM),(125,ypU),(126,yxU),(127,yhD),(128,yxV)] []
theorem yK2:FrOk prog ⟨ywW,103,fun _=>none⟩ yoK:=zkA mixed yd ⟨yam,yu8,yBk,yMT,ynt,yMU,trivial⟩
def yAL:Nat→Option Seg:=fun _=>none
def ycg:Shape:=⟨[(1,false,[.ptr 0 0]),(41,false,[.br tM]),(42,false,[.int .i64]),(43,false,[.int .i64])],[(0,[.int .i64,.int .i64,.int .i64,.br tM,.int .i64,.int .i64,.int .i64,.int .i64,.int .i64,.br tW,.int .i64,.bool,.bool])],[]⟩
def yf9:Shape:=⟨[(1,false,[.ptr 0 0]),(41,false,[.br tM]),(42,false,[.int .i64]),(43,false,[.ci .i64 0])],[(0,[.int .i64,.int .i64,.int .i64,.br tM,.int .i64,.int .i64,.int .i64,.int .i64,.int .i64,.br tW,.int .i64,.bool,.bool])],[]⟩
def yfV:Shape:=⟨[(1,false,[.ptr 0 0])],[(0,[.int .i64,.int .i64,.int .i64,.br tM,.int .i64,.int .i64,.int .i64,.int .i64,.int .i64,.br tW,.int .i64,.bool,.bool])],[]⟩
def ygn:Shape:=⟨[(2,false,[.bool])],[],[]⟩
abbrev ynZ (v0:List dM) (v1 v2:Int) (v3:dA):(ycg).X:=((((),()),(v0,()),(v1,()),(v2,()),()),((v3.1,v3.2.1.1,v3.2.1.2,v3.2.2.1,v3.2.2.2.1,v3.2.2.2.2.1,v3.2.2.2.2.2.1,v3.2.2.2.2.2.2.1,v3.2.2.2.2.2.2.2.1,v3.2.2.2.2.2.2.2.2.1,v3.2.2.2.2.2.2.2.2.2.1,v3.2.2.2.2.2.2.2.2.2.2.1,v3.2.2.2.2.2.2.2.2.2.2.2,()),()),())
abbrev yIq (v0:List dM) (v1:Int) (v2:dA):(yf9).X:=((((),()),(v0,()),(v1,()),((),()),()),((v2.1,v2.2.1.1,v2.2.1.2,v2.2.2.1,v2.2.2.2.1,v2.2.2.2.2.1,v2.2.2.2.2.2.1,v2.2.2.2.2.2.2.1,v2.2.2.2.2.2.2.2.1,v2.2.2.2.2.2.2.2.2.1,v2.2.2.2.2.2.2.2.2.2.1,v2.2.2.2.2.2.2.2.2.2.2.1,v2.2.2.2.2.2.2.2.2.2.2.2,()),()),())
abbrev yIh (v0:dA):(yfV).X:=((((),()),()),((v0.1,v0.2.1.1,v0.2.1.2,v0.2.2.1,v0.2.2.2.1,v0.2.2.2.2.1,v0.2.2.2.2.2.1,v0.2.2.2.2.2.2.1,v0.2.2.2.2.2.2.2.1,v0.2.2.2.2.2.2.2.2.1,v0.2.2.2.2.2.2.2.2.2.1,v0.2.2.2.2.2.2.2.2.2.2.1,v0.2.2.2.2.2.2.2.2.2.2.2,()),()),())
abbrev yID (v0:Bool):(ygn).X:=(((v0,()),()),(),())
def you (v0:List dM) (v1 v2 v3 v4 v5:Int) (v6:List dM) (v7 v8 v9 v10 v11:Int) (v12:List dW) (v13:Int) (v14 v15:Bool):Option ((ycg).X ⊕ ((yfV).X ⊕ (ygn).X)) :=bif(ltb v2 v1)then bif(inb v2 v0.length)then let r7:=yaQ ((nth v0 v2 ([],[],false,[])).1,((nth v0 v2 ([],[],false,[])).2).1,(((nth v0 v2 ([],[],false,[])).2).2));bif(!(!r7))then let r8:=ylT (v4,v5);bif(!((((nth v0 v2 ([],[],false,[])).1).length:Int) !=r8))then bif(((nth v0 v2 ([],[],false,[])).2).2).1 then bif(v7 !=v2)then bif(!v15)then some (.inr (.inr (((false,()),()),(),()))) else some (.inl ((((),()),(v0,()),(v1,()),((i64.wrap (v2+1)),()),()),((v3,v4,v5,v6,v7,v8,v9,v10,v11,v12,v13,v14,v15,()),()),())) else some (.inl ((((),()),(v0,()),(v1,()),((i64.wrap (v2+1)),()),()),((v3,v4,v5,v6,v7,v8,v9,v10,v11,v12,v13,v14,v15,()),()),())) else some (.inl ((((),()),(v0,()),(v1,()),((i64.wrap (v2+1)),()),()),((v3,v4,v5,v6,v7,v8,v9,v10,v11,v12,v13,v14,v15,()),()),())) else some (.inr (.inr (((false,()),()),(),()))) else some (.inr (.inr (((false,()),()),(),()))) else none else some (.inr (.inl ((((),()),()),((v3,v4,v5,v6,v7,v8,v9,v10,v11,v12,v13,v14,v15,()),()),())))
def ycE (x:(ycg).X):=you x.1.2.1.1 x.1.2.2.1.1 x.1.2.2.2.1.1 x.2.1.1.1 x.2.1.1.2.1 x.2.1.1.2.2.1 x.2.1.1.2.2.2.1 x.2.1.1.2.2.2.2.1 x.2.1.1.2.2.2.2.2.1 x.2.1.1.2.2.2.2.2.2.1 x.2.1.1.2.2.2.2.2.2.2.1 x.2.1.1.2.2.2.2.2.2.2.2.1 x.2.1.1.2.2.2.2.2.2.2.2.2.1 x.2.1.1.2.2.2.2.2.2.2.2.2.2.1 x.2.1.1.2.2.2.2.2.2.2.2.2.2.2.1 x.2.1.1.2.2.2.2.2.2.2.2.2.2.2.2.1
def yx7 (x:(yf9).X):(ycg).X:=((((),()),(x.1.2.1.1,()),(x.1.2.2.1.1,()),(0,()),()),((x.2.1.1.1,x.2.1.1.2.1,x.2.1.1.2.2.1,x.2.1.1.2.2.2.1,x.2.1.1.2.2.2.2.1,x.2.1.1.2.2.2.2.2.1,x.2.1.1.2.2.2.2.2.2.1,x.2.1.1.2.2.2.2.2.2.2.1,x.2.1.1.2.2.2.2.2.2.2.2.1,x.2.1.1.2.2.2.2.2.2.2.2.2.1,x.2.1.1.2.2.2.2.2.2.2.2.2.2.1,x.2.1.1.2.2.2.2.2.2.2.2.2.2.2.1,x.2.1.1.2.2.2.2.2.2.2.2.2.2.2.2.1,()),()),())
def yzv:Code:=(zd7 yoK 64 116).getD .skip
theorem yKH:zd7 yoK 64 29=some (.block 0 (.loop yzv)):=by kernel_rfl
theorem yNb (x:(ycg).X):zhu ⟨ywW,103,yAL⟩ 0 yzv 116 ycg yfV ygn x=ycE x:=by kernel_rfl
def yyl (x:(yf9).X):Nat:=18446744073709551616
def yo6 (x:(yf9).X):Option ((yfV).X ⊕ (ygn).X):=zF ycE (yyl x) (yx7 x)
def yy0:Seg:=⟨yf9,yfV,ygn,yo6⟩
def yNJ:Nat→Option Seg:=fun q=>bif Nat.beq q 29 then some yy0 else yAL q
theorem yK3:FrOk prog ⟨ywW,103,yNJ⟩ yoK:=(yK2).loop (sg:=yy0) ycg yx7 (by decide) yKH ycE yyl (by decide) (fun _=>rfl) (fun x r _ h=>h) yNb
abbrev ypk:List Par:= [.rd tA]
abbrev yxi:List OT:= [⟨false,tB,.fz⟩]
def ysF (a0:dA):Option (zaY yxi×zak ypk) :=let r1:=ydK a0.2.1;bif(!(!r1))then bif(!((a0.2.2.1.length:Int) !=a0.2.1.1))then let r2:=yf a0.1 1 60000;bif(!(!r2))then let r3:=yd4 a0.2.1 a0.2.2.2.1 a0.2.2.2.2.1;bif(!(!r3))then bnd (ylY a0) fun r4 =>bif(!r4.1.1)then some ((false,()),()) else zkt (yo6 ((((),()),(a0.2.2.1,()),((a0.2.2.1.length:Int),()),((),()),()),((a0.1,a0.2.1.1,a0.2.1.2,a0.2.2.1,a0.2.2.2.1,a0.2.2.2.2.1,a0.2.2.2.2.2.1,a0.2.2.2.2.2.2.1,a0.2.2.2.2.2.2.2.1,a0.2.2.2.2.2.2.2.2.1,a0.2.2.2.2.2.2.2.2.2.1,a0.2.2.2.2.2.2.2.2.2.2.1,a0.2.2.2.2.2.2.2.2.2.2.2,()),()),())) (fun y8 =>let r10:=yf y8.2.1.1.2.2.2.2.2.2.1 0 60000;bif r10 then let r11:=yf y8.2.1.1.2.2.2.2.2.2.2.1 0 60000;bif r11 then let r12:=yf y8.2.1.1.2.2.2.2.2.2.2.2.1 0 60000;bif r12 then let r13:=yf (i64.wrap (y8.2.1.1.2.2.2.2.2.2.1-y8.2.1.1.2.2.2.2.2.2.2.1)) 0 4;bif r13 then let r14:=yf y8.2.1.1.2.2.2.2.2.2.2.2.2.2.1 (-1) 1000;some ((r14,()),()) else some ((false,()),()) else some ((false,()),()) else some ((false,()),()) else some ((false,()),())) (fun y8 =>some ((y8.1.1.1,()),())) else some ((false,()),()) else some ((false,()),()) else some ((false,()),()) else some ((false,()),())
theorem yOQ:ConOk prog 55 ⟨ypk,yxi,fun x=>ysF x.1⟩:=zkI (yK3) func55 ntmps55.symm fun x=>by kernel_rfl
theorem yUh {S T G F z TS le:Bool} (h1:T=true→TS=true→S=true) (h2:S=true→T=true→z=(TS&&le)) :
  (bif S then bif T then bif G then bif z then some ((F,()),())else some ((false,()),())else some ((false,()),())else some ((false,()),())else some ((false,()),()))=some (((T&&(TS&&(le&&(G&&F)))),()),()):=by
 cases S
 ·cases T
  ·rfl
  ·cases TS
   ·rfl
   ·exact absurd (h1 rfl rfl) Bool.false_ne_true
 ·cases T
  ·cases G<;>rfl
  ·rw[h2 rfl rfl]
   cases TS<;>cases le<;>cases G<;>rfl
def ycv (a0:dA):Bool:=yP a0
theorem yQP (a0:dA) (hk:zjx ypk (a0,())):ysF a0=(fun n=>some ((n,()),())) (ycv a0):=by
 have hb:a0.2.2.1.length*80≤2^47:=hk.1.2.2.1.1;unfold ysF ycv yP;simp only[yLG,yaa,ycf];cases hg:ye a0.2.1
 ·rfl
 have hg2:=yk.1 hg
 have h1:yo6 (yIq a0.2.2.1 a0.2.2.1.length a0)=some (bif(List.range a0.2.2.1.length).any (yfp a0)then .inr (yID false)else .inl (yIh a0)) :=
  zji (step:=ycE) (fun i=>ynZ a0.2.2.1 a0.2.2.1.length i a0) a0.2.2.1.length (yfp a0) _ _ (fun i hi=>by
   simp only[ycE,ynZ,you,zky (show(i:Int)<a0.2.2.1.length by omega),cond_true,wq ((i:Int)+1) (by omega) (by omega),Int.natCast_add,Int.natCast_one,Int.toNat_natCast,zkR hi,zkX,yaQ,yfp,ylT,wq (6+a0.2.1.2) (by omega) (by omega),yc];rw[show(a0.2.2.2.1 !=(i:Int))=((i:Int) !=a0.2.2.2.1)from bne_comm]
   cases yq (nth a0.2.2.1 i ([],[],false,[]))<;>cases(((nth a0.2.2.1 i ([],[],false,[])).1.length:Int) !=6+a0.2.1.2)<;>cases(nth a0.2.2.1 i ([],[],false,[])).2.2.1<;>cases((i:Int) !=a0.2.2.2.1)<;>cases a0.2.2.2.2.2.2.2.2.2.2.2<;>rfl) (by simp only[ycE,ynZ,you,zk3 (Int.le_refl _),cond_false]) _ (by show _<18446744073709551616; omega)
 rw[yM6 a0 hg,h1];simp only[zkH,yhM,yd4,yaa,ycf,wq (a0.2.1.1-1) (by omega) (by omega),yiS]
 have hw:(leb 0 a0.2.2.2.2.2.1&&leb a0.2.2.2.2.2.1 60000)=true→(leb 0 a0.2.2.2.2.2.2.1&&leb a0.2.2.2.2.2.2.1 60000)=true→i64.wrap (a0.2.2.2.2.2.1-a0.2.2.2.2.2.2.1)=a0.2.2.2.2.2.1-a0.2.2.2.2.2.2.1:=fun h h'=>by
  rw[Bool.and_eq_true,zj7,zj7]at h h';exact wr (by omega) (by omega)
 simp only[bne,Bool.not_not,cond_true,Bool.true_and]
 have h2:(leb 0 a0.2.2.2.2.2.1&&leb a0.2.2.2.2.2.1 60000)=true→(leb 0 a0.2.2.2.2.2.2.1&&leb a0.2.2.2.2.2.2.1 60000)=true→(leb 0 (i64.wrap (a0.2.2.2.2.2.1-a0.2.2.2.2.2.2.1))&&leb (i64.wrap (a0.2.2.2.2.2.1-a0.2.2.2.2.2.2.1)) 4)=((leb a0.2.2.2.2.2.2.1 a0.2.2.2.2.2.1&&leb a0.2.2.2.2.2.1 60000)&&leb a0.2.2.2.2.2.1 (a0.2.2.2.2.2.2.1+4)):=fun h h'=>by
  rw[hw h h',Bool.eq_iff_iff];simp only[Bool.and_eq_true,zj7]at h h' ⊢;omega
 have h3:(leb 0 a0.2.2.2.2.2.2.1&&leb a0.2.2.2.2.2.2.1 60000)=true→(leb a0.2.2.2.2.2.2.1 a0.2.2.2.2.2.1&&leb a0.2.2.2.2.2.1 60000)=true→(leb 0 a0.2.2.2.2.2.1&&leb a0.2.2.2.2.2.1 60000)=true:=fun h h'=>by
  simp only[Bool.and_eq_true,zj7]at h h' ⊢;omega
 cases((a0.2.2.1.length:Int)==a0.2.1.1)
 ·cases(leb 1 a0.1&&leb a0.1 60000)<;>cases(List.range a0.2.2.1.length).any (yfp a0)<;>rfl
 cases(leb 1 a0.1&&leb a0.1 60000)
 ·rfl
 cases(leb (-1) a0.2.2.2.1&&leb a0.2.2.2.1 (a0.2.1.1-1))
 ·cases(List.range a0.2.2.1.length).any (yfp a0)<;>cases yaB a0.2.1 a0.2.2.2.2.2.2.2.2.1<;>rfl
 cases(leb 0 a0.2.2.2.2.1&&leb a0.2.2.2.2.1 a0.2.1.2)
 ·cases(List.range a0.2.2.1.length).any (yfp a0)<;>cases yaB a0.2.1 a0.2.2.2.2.2.2.2.2.1<;>rfl
 cases yaB a0.2.1 a0.2.2.2.2.2.2.2.2.1
 ·cases(List.range a0.2.2.1.length).any (yfp a0)<;>cases(a0.2.2.2.1== -1)<;>cases(a0.2.2.2.2.1==0)<;>rfl
 cases(List.range a0.2.2.1.length).any (yfp a0)
 ·cases(a0.2.2.2.1== -1)<;>cases(a0.2.2.2.2.1==0)
  case true.false=>rfl
  all_goals exact yUh h3 h2
 ·cases(a0.2.2.2.1== -1)<;>cases(a0.2.2.2.2.1==0)<;>rfl
def ylL:Con:=⟨ypk,yxi,fun x=>(fun n=>some ((n,()),())) (ycv x.1)⟩
theorem yu7:ConOk prog 55 ylL:=(yOQ).mono (fun x r hk h=>(yQP x.1 hk).trans h)
def yKa:Code:=(f158.body).getD .skip
def yKy:Env:=zkw TT [] []
theorem yDq:FrOk prog ⟨yKy,6,fun _=>none⟩ yKa:=zkA mixed yd trivial
abbrev yjL:List Par:= [.rd tL]
abbrev ypB:List OT:= [⟨false,tL,(.ow .fz)⟩]
def ymD (a0:List Int):Option (zaY ypB×zak yjL) :=bif(zkl ([]:List Int).length a0.length 8)then some (((([]:List Int)++a0),()),()) else none
theorem yGk:ConOk prog 158 ⟨yjL,ypB,fun x=>ymD x.1⟩:=zkI (yDq) func158 ntmps158.symm fun x=>by kernel_rfl
def yv (a0:List Int):List Int:=a0
theorem yIS (a0:List Int) (hk:zjx yjL (a0,())):ymD a0=(fun n=>some ((n,()),())) (yv a0):=by
 have hb:a0.length*8≤2^47:=hk.1.1;unfold ymD yv;rw[show zkl ([]:List Int).length a0.length 8=true by rw[zkF,List.length_nil]; omega];rfl
def yeD:Con:=⟨yjL,ypB,fun x=>(fun n=>some ((n,()),())) (yv x.1)⟩
theorem yiB:ConOk prog 158 yeD:=(yGk).mono (fun x r hk h=>(yIS x.1 hk).trans h)
def yda:Code:=(f133.body).getD .skip
def yhm:Env:=zkw TT [(158,yeD)] []
theorem yFi:FrOk prog ⟨yhm,49,fun _=>none⟩ yda:=zkA mixed yd ⟨yiB,trivial⟩
def ywM:Nat→Option Seg:=fun _=>none
def ybc:Shape:=⟨[(1,false,[.ptr 0 0]),(2,false,[.ptr 64 0]),(3,false,[.ptr 4480 0]),(15,false,[.br tL]),(16,false,[.int .i64]),(17,false,[.int .i64])],[(0,[.br tL,.br tW,.bool,.br tI]),(64,[.nil,.nil,.bool,.nil]),(4480,[.at 800000001,.nil,.bool,.at 800000000])],[(800000001,tL,(.ow .fz)),(800000000,tI,.fz)]⟩
def yeo:Shape:=⟨[(1,false,[.ptr 0 0]),(2,false,[.ptr 64 0]),(3,false,[.ptr 4480 0]),(15,false,[.br tL]),(16,false,[.int .i64]),(17,false,[.ci .i64 0])],[(0,[.br tL,.br tW,.bool,.br tI]),(64,[.nil,.nil,.bool,.nil]),(4480,[.at 800000001,.nil,.bool,.at 800000000])],[(800000001,tL,(.ow .fz)),(800000000,tI,.fz)]⟩
def yec:Shape:=⟨[(1,false,[.ptr 0 0]),(2,false,[.ptr 64 0]),(3,false,[.ptr 4480 0])],[(0,[.br tL,.br tW,.bool,.br tI]),(64,[.nil,.nil,.bool,.nil]),(4480,[.at 800000000,.nil,.bool,.at 800000001])],[(800000000,tL,(.ow .fz)),(800000001,tI,.fz)]⟩
def yg9:Shape:=⟨[],[],[]⟩
abbrev ykP (v0:List (List Int)) (v1 v2:Int) (v3 v4 v5:dM):(ybc).X:=((((),()),((),()),((),()),(v0,()),(v1,()),(v2,()),()),((v3.1,v3.2.1,v3.2.2.1,v3.2.2.2,()),((),(),v4.2.2.1,(),()),((),(),v5.2.2.1,(),()),()),(v5.1,v5.2.2.2,()))
abbrev yDX (v0:List (List Int)) (v1:Int) (v2 v3 v4:dM):(yeo).X:=((((),()),((),()),((),()),(v0,()),(v1,()),((),()),()),((v2.1,v2.2.1,v2.2.2.1,v2.2.2.2,()),((),(),v3.2.2.1,(),()),((),(),v4.2.2.1,(),()),()),(v4.1,v4.2.2.2,()))
abbrev ytG (v0 v1 v2:dM):(yec).X:=((((),()),((),()),((),()),()),((v0.1,v0.2.1,v0.2.2.1,v0.2.2.2,()),((),(),v1.2.2.1,(),()),((),(),v2.2.2.1,(),()),()),(v2.1,v2.2.2.2,()))
def yk8 (v0:List (List Int)) (v1 v2:Int) (v3:List (List Int)) (v4:List dW) (v5:Bool) (v6:List Int) (v7 v8:Bool) (v9:List (List Int)) (v10:List Int):Option ((ybc).X ⊕ ((yec).X ⊕ (yg9).X)) :=bif(ltb v2 v1)then bif(inb v2 v0.length)then let r4:=yv (nth v0 v2 []);bif(zkl v9.length ([r4]:List (List Int)).length 24)then some (.inl ((((),()),((),()),((),()),(v0,()),(v1,()),((i64.wrap (v2+1)),()),()),((v3,v4,v5,v6,()),((),(),v7,(),()),((),(),v8,(),()),()),((v9++([r4]:List (List Int))),v10,()))) else none else none else some (.inr (.inl ((((),()),((),()),((),()),()),((v3,v4,v5,v6,()),((),(),v7,(),()),((),(),v8,(),()),()),(v9,v10,()))))
def ybs (x:(ybc).X):=yk8 x.1.2.2.2.1.1 x.1.2.2.2.2.1.1 x.1.2.2.2.2.2.1.1 x.2.1.1.1 x.2.1.1.2.1 x.2.1.1.2.2.1 x.2.1.1.2.2.2.1 x.2.1.2.1.2.2.1 x.2.1.2.2.1.2.2.1 x.2.2.1 x.2.2.2.1
def yte (x:(yeo).X):(ybc).X:=((((),()),((),()),((),()),(x.1.2.2.2.1.1,()),(x.1.2.2.2.2.1.1,()),(0,()),()),((x.2.1.1.1,x.2.1.1.2.1,x.2.1.1.2.2.1,x.2.1.1.2.2.2.1,()),((),(),x.2.1.2.1.2.2.1,(),()),((),(),x.2.1.2.2.1.2.2.1,(),()),()),(x.2.2.1,x.2.2.2.1,()))
def yvs:Code:=(zd7 yda 64 116).getD .skip
theorem yEZ:zd7 yda 64 29=some (.block 0 (.loop yvs)):=by kernel_rfl
theorem yGF (x:(ybc).X):zhu ⟨yhm,49,ywM⟩ 0 yvs 116 ybc yec yg9 x=ybs x:=by kernel_rfl
def ytt (x:(yeo).X):Nat:=18446744073709551616
def yl3 (x:(yeo).X):Option ((yec).X ⊕ (yg9).X):=zF ybs (ytt x) (yte x)
def ytS:Seg:=⟨yeo,yec,yg9,yl3⟩
def ynx:Nat→Option Seg:=fun q=>bif Nat.beq q 29 then some ytS else ywM q
theorem yFj:FrOk prog ⟨yhm,49,ynx⟩ yda:=(yFi).loop (sg:=ytS) ybc yte (by decide) yEZ ybs ytt (by decide) (fun _=>rfl) (fun x r _ h=>h) yGF
def ybd:Shape:=⟨[(2,false,[.ptr 64 0]),(3,false,[.ptr 4480 0]),(30,false,[.br tW]),(31,false,[.int .i64]),(32,false,[.int .i64])],[(64,[.nil,.nil,.bool,.nil]),(4480,[.at 800000000,.at 800000002,.bool,.at 800000001])],[(800000000,tL,(.ow .fz)),(800000002,tW,(.pr .fz (.ow .fz))),(800000001,tI,.fz)]⟩
def yep:Shape:=⟨[(2,false,[.ptr 64 0]),(3,false,[.ptr 4480 0]),(30,false,[.br tW]),(31,false,[.int .i64]),(32,false,[.ci .i64 0])],[(64,[.nil,.nil,.bool,.nil]),(4480,[.at 800000000,.at 800000002,.bool,.at 800000001])],[(800000000,tL,(.ow .fz)),(800000002,tW,(.pr .fz (.ow .fz))),(800000001,tI,.fz)]⟩
def yed:Shape:=⟨[(2,false,[.ptr 64 0]),(3,false,[.ptr 4480 0])],[(64,[.nil,.nil,.bool,.nil]),(4480,[.at 800000000,.at 800000001,.bool,.at 800000002])],[(800000000,tL,(.ow .fz)),(800000001,tW,(.pr .fz (.ow .fz))),(800000002,tI,.fz)]⟩
def yha:Shape:=⟨[],[],[]⟩
abbrev ykQ (v0:List dW) (v1 v2:Int) (v3 v4:dM):(ybd).X:=((((),()),((),()),(v0,()),(v1,()),(v2,()),()),(((),(),v3.2.2.1,(),()),((),(),v4.2.2.1,(),()),()),(v4.1,v4.2.1,v4.2.2.2,()))
abbrev yDY (v0:List dW) (v1:Int) (v2 v3:dM):(yep).X:=((((),()),((),()),(v0,()),(v1,()),((),()),()),(((),(),v2.2.2.1,(),()),((),(),v3.2.2.1,(),()),()),(v3.1,v3.2.1,v3.2.2.2,()))
abbrev ytH (v0 v1:dM):(yed).X:=((((),()),((),()),()),(((),(),v0.2.2.1,(),()),((),(),v1.2.2.1,(),()),()),(v1.1,v1.2.1,v1.2.2.2,()))
def yk9 (v0:List dW) (v1 v2:Int) (v3 v4:Bool) (v5:List (List Int)) (v6:List dW) (v7:List Int):Option ((ybd).X ⊕ ((yed).X ⊕ (yha).X)) :=bif(ltb v2 v1)then bif(inb v2 v0.length)then let r8:=yv ((nth v0 v2 (0,[])).2);bif(zkl v6.length ([((nth v0 v2 (0,[])).1,r8)]:List dW).length 32)then some (.inl ((((),()),((),()),(v0,()),(v1,()),((i64.wrap (v2+1)),()),()),(((),(),v3,(),()),((),(),v4,(),()),()),(v5,(v6++([((nth v0 v2 (0,[])).1,r8)]:List dW)),v7,()))) else none else none else some (.inr (.inl ((((),()),((),()),()),(((),(),v3,(),()),((),(),v4,(),()),()),(v5,v6,v7,()))))
def ybt (x:(ybd).X):=yk9 x.1.2.2.1.1 x.1.2.2.2.1.1 x.1.2.2.2.2.1.1 x.2.1.1.2.2.1 x.2.1.2.1.2.2.1 x.2.2.1 x.2.2.2.1 x.2.2.2.2.1
def ytf (x:(yep).X):(ybd).X:=((((),()),((),()),(x.1.2.2.1.1,()),(x.1.2.2.2.1.1,()),(0,()),()),(((),(),x.2.1.1.2.2.1,(),()),((),(),x.2.1.2.1.2.2.1,(),()),()),(x.2.2.1,x.2.2.2.1,x.2.2.2.2.1,()))
def yvt:Code:=(zd7 yda 64 244).getD .skip
theorem yE0:zd7 yda 64 61=some (.block 2 (.loop yvt)):=by kernel_rfl
theorem yGG (x:(ybd).X):zhu ⟨yhm,49,ynx⟩ 2 yvt 244 ybd yed yha x=ybt x:=by kernel_rfl
def ytu (x:(yep).X):Nat:=18446744073709551616
def yl4 (x:(yep).X):Option ((yed).X ⊕ (yha).X):=zF ybt (ytu x) (ytf x)
def ytT:Seg:=⟨yep,yed,yha,yl4⟩
def yGZ:Nat→Option Seg:=fun q=>bif Nat.beq q 61 then some ytT else ynx q
theorem yFk:FrOk prog ⟨yhm,49,yGZ⟩ yda:=(yFj).loop (sg:=ytT) ybd ytf (by decide) yE0 ybt ytu (by decide) (fun _=>rfl) (fun x r _ h=>h) yGG
abbrev ylv:List Par:= [.rd tM]
abbrev yrZ:List OT:= [⟨false,tM,(.pr (.ow (.ow .fz)) (.pr (.ow (.pr .fz (.ow .fz))) (.pr .fz (.ow .fz))))⟩]
def yog (a0:dM):Option (zaY yrZ×zak ylv) :=let r1:=yv a0.2.2.2;zkt (yl3 ((((),()),((),()),((),()),(a0.1,()),((a0.1.length:Int),()),((),()),()),((a0.1,a0.2.1,a0.2.2.1,a0.2.2.2,()),((),(),false,(),()),((),(),a0.2.2.1,(),()),()),([],r1,()))) (fun y4 =>zkt (yl4 ((((),()),((),()),(y4.2.1.1.2.1,()),((y4.2.1.1.2.1.length:Int),()),((),()),()),(((),(),y4.2.1.2.1.2.2.1,(),()),((),(),y4.2.1.2.2.1.2.2.1,(),()),()),(y4.2.2.1,[],y4.2.2.2.1,()))) (fun y8 =>some (((y8.2.2.1,y8.2.2.2.1,y8.2.1.2.1.2.2.1,y8.2.2.2.2.1),()),())) (fun y8 =>none)) (fun y4 =>none)
theorem yJb:ConOk prog 133 ⟨ylv,yrZ,fun x=>yog x.1⟩:=zkI (yFk) func133 ntmps133.symm fun x=>by kernel_rfl
def yB (a0:dM):dM:=a0
theorem yLX (a0:dM) (hk:zjx ylv (a0,())):yog a0=(fun n=>some ((n,()),())) (yB a0):=by
 have hb1:a0.1.length*24≤2^47:=hk.1.1.1;have hb2:a0.2.1.length*32≤2^47:=hk.1.2.1.1
 have h1:yl3 (yDX a0.1 a0.1.length a0 yc ([],[],a0.2.2.1,a0.2.2.2))=some (.inl (ytG a0 yc (a0.1,[],a0.2.2.1,a0.2.2.2))):=by
  have:=zkx (step:=ybs) a0.1 [] (fun i s=>ykP a0.1 a0.1.length i a0 yc (s,[],a0.2.2.1,a0.2.2.2)) (fun s x=>s++ [x]) (fun i s=>s.length=i) (fun s=> .inl (ytG a0 yc (s,[],a0.2.2.1,a0.2.2.2))) (fun i s hi hs2=>⟨by
   simp only[ybs,ykP,yk8,zky (show(i:Int)<a0.1.length by omega),cond_true,wq ((i:Int)+1) (by omega) (by omega),Int.natCast_add,Int.natCast_one,Int.toNat_natCast,zkR hi,zkS,yv]
   rw[zkF.2 (show(s.length+ [a0.1.getD i []].length)*24≤140737488355328 by simp only[List.length_cons,List.length_nil]; omega)]; rfl,by simp[hs2]⟩) (fun s _=>by simp only[ybs,ykP,yk8,zk3 (Int.le_refl _),cond_false]) [] rfl 18446744073709551616 (by omega)
  rw[ynY]at this;exact this
 have h2:yl4 (yDY a0.2.1 a0.2.1.length yc (a0.1,[],a0.2.2.1,a0.2.2.2))=some (.inl (ytH yc a0)):=by
  have:=zkx (step:=ybt) a0.2.1 (0,[]) (fun i s=>ykQ a0.2.1 a0.2.1.length i yc (a0.1,s,a0.2.2.1,a0.2.2.2)) (fun s x=>s++ [x]) (fun i s=>s.length=i) (fun s=> .inl (ytH yc (a0.1,s,a0.2.2.1,a0.2.2.2))) (fun i s hi hs2=>⟨by
   simp only[ybt,ykQ,yk9,zky (show(i:Int)<a0.2.1.length by omega),cond_true,wq ((i:Int)+1) (by omega) (by omega),Int.natCast_add,Int.natCast_one,Int.toNat_natCast,zkR hi,zkS,yv,zkX]
   rw[zkF.2 (show(s.length+ [a0.2.1.getD i (0,[])].length)*32≤140737488355328 by simp only[List.length_cons,List.length_nil]; omega)]; rfl,by simp[hs2]⟩) (fun s _=>by simp only[ybt,ykQ,yk9,zk3 (Int.le_refl _),cond_false]) [] rfl 18446744073709551616 (by omega)
  rw[ynY]at this;exact this
 unfold yog yB;simp only[yv,h1,zkN,h2]
def ydf:Con:=⟨ylv,yrZ,fun x=>(fun n=>some ((n,()),())) (yB x.1)⟩
theorem ygM:ConOk prog 133 ydf:=(yJb).mono (fun x r hk h=>(yLX x.1 hk).trans h)
def yNr:Code:=(f61.body).getD .skip
def yNU:Env:=zkw TT [(133,ydf)] []
theorem yFd:FrOk prog ⟨yNU,9,fun _=>none⟩ yNr:=zkA mixed yd ⟨ygM,trivial⟩
abbrev yrI:List Par:= [.rd tM]
abbrev yrV:List OT:= [⟨false,tM,(.pr (.ow (.ow .fz)) (.pr (.ow (.pr .fz (.ow .fz))) (.pr .fz (.ow .fz))))⟩]
def yyR (a0:dM):Option (zaY yrV×zak yrI) :=let r1:=yB a0;some (((r1.1,[],true,r1.2.2.2),()),())
theorem yI7:ConOk prog 61 ⟨yrI,yrV,fun x=>yyR x.1⟩:=zkI (yFd) func61 ntmps61.symm fun x=>by kernel_rfl
def ylS (a0:dM):dM :=let r1:=yB a0;(r1.1,[],true,r1.2.2.2)
def yxR:Con:=⟨yrI,yrV,fun x=>(fun n=>some ((n,()),())) (ylS x.1)⟩
theorem yLT (a0:dM):yyR a0=(fun n=>some ((n,()),())) (ylS a0):=zkV (p:=fun(n:dM)=>((n,()),())) rfl
theorem yMQ:ConOk prog 61 yxR:=(yI7).mono (fun x r _ h=>(yLT x.1).trans h)
def yjA:Code:=(f74.body).getD .skip
def yo0:Env:=zkw TT [(133,ydf)] []
theorem yDr:FrOk prog ⟨yo0,20,fun _=>none⟩ yjA:=zkA mixed yd ⟨ygM,trivial⟩
def yvk:Nat→Option Seg:=fun _=>none
def yaL:Shape:=⟨[(3,false,[.at 800000000]),(7,false,[.br tM]),(8,false,[.int .i64]),(9,false,[.int .i64])],[],[(800000000,tM,(.pr (.ow (.ow .fz)) (.pr (.ow (.pr .fz (.ow .fz))) (.pr .fz (.ow .fz)))))]⟩
def ydB:Shape:=⟨[(3,false,[.at 800000000]),(7,false,[.br tM]),(8,false,[.int .i64]),(9,false,[.ci .i64 0])],[],[(800000000,tM,(.pr (.ow (.ow .fz)) (.pr (.ow (.pr .fz (.ow .fz))) (.pr .fz (.ow .fz)))))]⟩
def ydt:Shape:=⟨[(3,false,[.at 800000000])],[],[(800000000,tM,(.pr (.ow (.ow .fz)) (.pr (.ow (.pr .fz (.ow .fz))) (.pr .fz (.ow .fz)))))]⟩
def ygs:Shape:=⟨[],[],[]⟩
abbrev yjh (v0:List dM) (v1 v2:Int) (v3:List dM):(yaL).X:=((((),()),(v0,()),(v1,()),(v2,()),()),(),(v3,()))
abbrev yCy (v0:List dM) (v1:Int) (v2:List dM):(ydB).X:=((((),()),(v0,()),(v1,()),((),()),()),(),(v2,()))
abbrev yCs (v0:List dM):(ydt).X:=((((),()),()),(),(v0,()))
def yjs (v0:List dM) (v1 v2:Int) (v3:List dM):Option ((yaL).X ⊕ ((ydt).X ⊕ (ygs).X)) :=bif(ltb v2 v1)then bif(inb v2 v0.length)then let r2:=yB ((nth v0 v2 ([],[],false,[])).1,((nth v0 v2 ([],[],false,[])).2).1,(((nth v0 v2 ([],[],false,[])).2).2));bif(zkl v3.length ([r2]:List dM).length 80)then some (.inl ((((),()),(v0,()),(v1,()),((i64.wrap (v2+1)),()),()),(),((v3++([r2]:List dM)),()))) else none else none else some (.inr (.inl ((((),()),()),(),(v3,()))))
def ya4 (x:(yaL).X):=yjs x.1.2.1.1 x.1.2.2.1.1 x.1.2.2.2.1.1 x.2.2.1
def yq1 (x:(ydB).X):(yaL).X:=((((),()),(x.1.2.1.1,()),(x.1.2.2.1.1,()),(0,()),()),(),(x.2.2.1,()))
def ys2:Code:=(zd7 yjA 64 116).getD .skip
theorem yC2:zd7 yjA 64 29=some (.block 0 (.loop ys2)):=by kernel_rfl
theorem yEt (x:(yaL).X):zhu ⟨yo0,20,yvk⟩ 0 ys2 116 yaL ydt ygs x=ya4 x:=by kernel_rfl
def yra (x:(ydB).X):Nat:=18446744073709551616
def ykt (x:(ydB).X):Option ((ydt).X ⊕ (ygs).X):=zF ya4 (yra x) (yq1 x)
def yro:Seg:=⟨ydB,ydt,ygs,ykt⟩
def yEP:Nat→Option Seg:=fun q=>bif Nat.beq q 29 then some yro else yvk q
theorem yDs:FrOk prog ⟨yo0,20,yEP⟩ yjA:=(yDr).loop (sg:=yro) yaL yq1 (by decide) yC2 ya4 yra (by decide) (fun _=>rfl) (fun x r _ h=>h) yEt
abbrev yjM:List Par:= [.rd tMs]
abbrev ypC:List OT:= [⟨false,tMs,(.ow (.pr (.ow (.ow .fz)) (.pr (.ow (.pr .fz (.ow .fz))) (.pr .fz (.ow .fz)))))⟩]
def ymE (a0:List dM):Option (zaY ypC×zak yjM) :=zkt (ykt ((((),()),(a0,()),((a0.length:Int),()),((),()),()),(),(([]:List dM),()))) (fun y2 =>some ((y2.2.2.1,()),())) (fun y2 =>none)
theorem yGl:ConOk prog 74 ⟨yjM,ypC,fun x=>ymE x.1⟩:=zkI (yDs) func74 ntmps74.symm fun x=>by kernel_rfl
def ykj (a0:List dM):List dM:=a0
theorem yIT (a0:List dM) (hk:zjx yjM (a0,())):ymE a0=(fun n=>some ((n,()),())) (ykj a0):=by
 have hb:a0.length*80≤2^47:=hk.1.1
 have h1:=zkx (step:=ya4) a0 yc (fun i s=>yjh a0 a0.length i s) (fun s x=>s++ [x]) (fun i s=>s.length=i) (fun s=> .inl (yCs s)) (fun i s hi hs=>⟨by
   simp only[ya4,yjh,yjs,zky (show(i:Int)<a0.length by omega),cond_true,wq ((i:Int)+1) (by omega) (by omega),Int.natCast_add,Int.natCast_one,Int.toNat_natCast,zkR hi,zkS,yB,zkX]
   rw[zkF.2 (show(s.length+ [a0.getD i ([],[],false,[])].length)*80≤140737488355328 by simp only[List.length_cons,List.length_nil]; omega)]; rfl,by simp[hs]⟩) (fun s hs=>by simp only[ya4,yjh,yjs,zk3 (Int.le_refl _),cond_false]) [] rfl 18446744073709551616 (by omega)
 rw[ynY]at h1;unfold ymE ykj;rw[show ykt (yCy a0 a0.length [])=_ from h1]; rfl
def yvL:Con:=⟨yjM,ypC,fun x=>(fun n=>some ((n,()),())) (ykj x.1)⟩
theorem yJG:ConOk prog 74 yvL:=(yGl).mono (fun x r hk h=>(yIT x.1 hk).trans h)
def yll:Code:=(f95.body).getD .skip
def yrz:Env:=zkw TT [(74,yvL),(158,yeD)] []
theorem yFg:FrOk prog ⟨yrz,31,fun _=>none⟩ yll:=zkA mixed yd ⟨yJG,yiB,trivial⟩
def ywL:Nat→Option Seg:=fun _=>none
def ybb:Shape:=⟨[(1,false,[.ptr 0 0]),(2,false,[.ptr 64 0]),(3,false,[.at 800000000]),(8,false,[.br tW]),(9,false,[.int .i64]),(10,false,[.int .i64])],[(0,[.int .i64,.int .i64,.int .i64,.br tM,.int .i64,.int .i64,.int .i64,.int .i64,.int .i64,.br tW,.int .i64,.bool,.bool]),(64,[.int .i64,.int .i64,.int .i64,.nil,.int .i64,.int .i64,.int .i64,.int .i64,.int .i64,.nil,.int .i64,.bool,.bool])],[(800000000,tW,(.pr .fz (.ow .fz)))]⟩
def yen:Shape:=⟨[(1,false,[.ptr 0 0]),(2,false,[.ptr 64 0]),(3,false,[.at 800000000]),(8,false,[.br tW]),(9,false,[.int .i64]),(10,false,[.ci .i64 0])],[(0,[.int .i64,.int .i64,.int .i64,.br tM,.int .i64,.int .i64,.int .i64,.int .i64,.int .i64,.br tW,.int .i64,.bool,.bool]),(64,[.int .i64,.int .i64,.int .i64,.nil,.int .i64,.int .i64,.int .i64,.int .i64,.int .i64,.nil,.int .i64,.bool,.bool])],[(800000000,tW,(.pr .fz (.ow .fz)))]⟩
def yeb:Shape:=⟨[(1,false,[.ptr 0 0]),(2,false,[.ptr 64 0]),(3,false,[.at 800000000])],[(0,[.int .i64,.int .i64,.int .i64,.br tM,.int .i64,.int .i64,.int .i64,.int .i64,.int .i64,.br tW,.int .i64,.bool,.bool]),(64,[.int .i64,.int .i64,.int .i64,.nil,.int .i64,.int .i64,.int .i64,.int .i64,.int .i64,.nil,.int .i64,.bool,.bool])],[(800000000,tW,(.pr .fz (.ow .fz)))]⟩
def yg8:Shape:=⟨[],[],[]⟩
abbrev ykO (v0:List dW) (v1 v2:Int) (v3 v4:dA) (v5:List dW):(ybb).X:=((((),()),((),()),((),()),(v0,()),(v1,()),(v2,()),()),((v3.1,v3.2.1.1,v3.2.1.2,v3.2.2.1,v3.2.2.2.1,v3.2.2.2.2.1,v3.2.2.2.2.2.1,v3.2.2.2.2.2.2.1,v3.2.2.2.2.2.2.2.1,v3.2.2.2.2.2.2.2.2.1,v3.2.2.2.2.2.2.2.2.2.1,v3.2.2.2.2.2.2.2.2.2.2.1,v3.2.2.2.2.2.2.2.2.2.2.2,()),(v4.1,v4.2.1.1,v4.2.1.2,(),v4.2.2.2.1,v4.2.2.2.2.1,v4.2.2.2.2.2.1,v4.2.2.2.2.2.2.1,v4.2.2.2.2.2.2.2.1,(),v4.2.2.2.2.2.2.2.2.2.1,v4.2.2.2.2.2.2.2.2.2.2.1,v4.2.2.2.2.2.2.2.2.2.2.2,()),()),(v5,()))
abbrev yDW (v0:List dW) (v1:Int) (v2 v3:dA) (v4:List dW):(yen).X:=((((),()),((),()),((),()),(v0,()),(v1,()),((),()),()),((v2.1,v2.2.1.1,v2.2.1.2,v2.2.2.1,v2.2.2.2.1,v2.2.2.2.2.1,v2.2.2.2.2.2.1,v2.2.2.2.2.2.2.1,v2.2.2.2.2.2.2.2.1,v2.2.2.2.2.2.2.2.2.1,v2.2.2.2.2.2.2.2.2.2.1,v2.2.2.2.2.2.2.2.2.2.2.1,v2.2.2.2.2.2.2.2.2.2.2.2,()),(v3.1,v3.2.1.1,v3.2.1.2,(),v3.2.2.2.1,v3.2.2.2.2.1,v3.2.2.2.2.2.1,v3.2.2.2.2.2.2.1,v3.2.2.2.2.2.2.2.1,(),v3.2.2.2.2.2.2.2.2.2.1,v3.2.2.2.2.2.2.2.2.2.2.1,v3.2.2.2.2.2.2.2.2.2.2.2,()),()),(v4,()))
abbrev yDP (v0 v1:dA) (v2:List dW):(yeb).X:=((((),()),((),()),((),()),()),((v0.1,v0.2.1.1,v0.2.1.2,v0.2.2.1,v0.2.2.2.1,v0.2.2.2.2.1,v0.2.2.2.2.2.1,v0.2.2.2.2.2.2.1,v0.2.2.2.2.2.2.2.1,v0.2.2.2.2.2.2.2.2.1,v0.2.2.2.2.2.2.2.2.2.1,v0.2.2.2.2.2.2.2.2.2.2.1,v0.2.2.2.2.2.2.2.2.2.2.2,()),(v1.1,v1.2.1.1,v1.2.1.2,(),v1.2.2.2.1,v1.2.2.2.2.1,v1.2.2.2.2.2.1,v1.2.2.2.2.2.2.1,v1.2.2.2.2.2.2.2.1,(),v1.2.2.2.2.2.2.2.2.2.1,v1.2.2.2.2.2.2.2.2.2.2.1,v1.2.2.2.2.2.2.2.2.2.2.2,()),()),(v2,()))
def yk7 (v0:List dW) (v1 v2 v3 v4 v5:Int) (v6:List dM) (v7 v8 v9 v10 v11:Int) (v12:List dW) (v13:Int) (v14 v15:Bool) (v16 v17 v18 v19 v20 v21 v22 v23 v24:Int) (v25 v26:Bool) (v27:List dW):Option ((ybb).X ⊕ ((yeb).X ⊕ (yg8).X)) :=bif(ltb v2 v1)then bif(inb v2 v0.length)then let r2:=yv ((nth v0 v2 (0,[])).2);bif(zkl v27.length ([((nth v0 v2 (0,[])).1,r2)]:List dW).length 32)then some (.inl ((((),()),((),()),((),()),(v0,()),(v1,()),((i64.wrap (v2+1)),()),()),((v3,v4,v5,v6,v7,v8,v9,v10,v11,v12,v13,v14,v15,()),(v16,v17,v18,(),v19,v20,v21,v22,v23,(),v24,v25,v26,()),()),((v27++([((nth v0 v2 (0,[])).1,r2)]:List dW)),()))) else none else none else some (.inr (.inl ((((),()),((),()),((),()),()),((v3,v4,v5,v6,v7,v8,v9,v10,v11,v12,v13,v14,v15,()),(v16,v17,v18,(),v19,v20,v21,v22,v23,(),v24,v25,v26,()),()),(v27,()))))
def ybr (x:(ybb).X):=yk7 x.1.2.2.2.1.1 x.1.2.2.2.2.1.1 x.1.2.2.2.2.2.1.1 x.2.1.1.1 x.2.1.1.2.1 x.2.1.1.2.2.1 x.2.1.1.2.2.2.1 x.2.1.1.2.2.2.2.1 x.2.1.1.2.2.2.2.2.1 x.2.1.1.2.2.2.2.2.2.1 x.2.1.1.2.2.2.2.2.2.2.1 x.2.1.1.2.2.2.2.2.2.2.2.1 x.2.1.1.2.2.2.2.2.2.2.2.2.1 x.2.1.1.2.2.2.2.2.2.2.2.2.2.1 x.2.1.1.2.2.2.2.2.2.2.2.2.2.2.1 x.2.1.1.2.2.2.2.2.2.2.2.2.2.2.2.1 x.2.1.2.1.1 x.2.1.2.1.2.1 x.2.1.2.1.2.2.1 x.2.1.2.1.2.2.2.2.1 x.2.1.2.1.2.2.2.2.2.1 x.2.1.2.1.2.2.2.2.2.2.1 x.2.1.2.1.2.2.2.2.2.2.2.1 x.2.1.2.1.2.2.2.2.2.2.2.2.1 x.2.1.2.1.2.2.2.2.2.2.2.2.2.2.1 x.2.1.2.1.2.2.2.2.2.2.2.2.2.2.2.1 x.2.1.2.1.2.2.2.2.2.2.2.2.2.2.2.2.1 x.2.2.1
def ytd (x:(yen).X):(ybb).X:=((((),()),((),()),((),()),(x.1.2.2.2.1.1,()),(x.1.2.2.2.2.1.1,()),(0,()),()),((x.2.1.1.1,x.2.1.1.2.1,x.2.1.1.2.2.1,x.2.1.1.2.2.2.1,x.2.1.1.2.2.2.2.1,x.2.1.1.2.2.2.2.2.1,x.2.1.1.2.2.2.2.2.2.1,x.2.1.1.2.2.2.2.2.2.2.1,x.2.1.1.2.2.2.2.2.2.2.2.1,x.2.1.1.2.2.2.2.2.2.2.2.2.1,x.2.1.1.2.2.2.2.2.2.2.2.2.2.1,x.2.1.1.2.2.2.2.2.2.2.2.2.2.2.1,x.2.1.1.2.2.2.2.2.2.2.2.2.2.2.2.1,()),(x.2.1.2.1.1,x.2.1.2.1.2.1,x.2.1.2.1.2.2.1,(),x.2.1.2.1.2.2.2.2.1,x.2.1.2.1.2.2.2.2.2.1,x.2.1.2.1.2.2.2.2.2.2.1,x.2.1.2.1.2.2.2.2.2.2.2.1,x.2.1.2.1.2.2.2.2.2.2.2.2.1,(),x.2.1.2.1.2.2.2.2.2.2.2.2.2.2.1,x.2.1.2.1.2.2.2.2.2.2.2.2.2.2.2.1,x.2.1.2.1.2.2.2.2.2.2.2.2.2.2.2.2.1,()),()),(x.2.2.1,()))
def yvr:Code:=(zd7 yll 64 116).getD .skip
theorem yEY:zd7 yll 64 29=some (.block 0 (.loop yvr)):=by kernel_rfl
theorem yGE (x:(ybb).X):zhu ⟨yrz,31,ywL⟩ 0 yvr 116 ybb yeb yg8 x=ybr x:=by kernel_rfl
def yts (x:(yen).X):Nat:=18446744073709551616
def yl2 (x:(yen).X):Option ((yeb).X ⊕ (yg8).X):=zF ybr (yts x) (ytd x)
def ytR:Seg:=⟨yen,yeb,yg8,yl2⟩
def yGY:Nat→Option Seg:=fun q=>bif Nat.beq q 29 then some ytR else ywL q
theorem yFh:FrOk prog ⟨yrz,31,yGY⟩ yll:=(yFg).loop (sg:=ytR) ybb ytd (by decide) yEY ybr yts (by decide) (fun _=>rfl) (fun x r _ h=>h) yGE
abbrev ylu:List Par:= [.rd tA]
abbrev yrY:List OT:= [⟨false,tA,(.pr .fz (.pr (.pr .fz .fz) (.pr (.ow (.pr (.ow (.ow .fz)) (.pr (.ow (.pr .fz (.ow .fz))) (.pr .fz (.ow .fz))))) (.pr .fz (.pr .fz (.pr .fz (.pr .fz (.pr .fz (.pr (.ow (.pr .fz (.ow .fz))) (.pr .fz (.pr .fz .fz)))))))))))⟩]
def yof (a0:dA):Option (zaY yrY×zak ylu) :=zkt (yl2 ((((),()),((),()),((),()),(a0.2.2.2.2.2.2.2.2.1,()),((a0.2.2.2.2.2.2.2.2.1.length:Int),()),((),()),()),((a0.1,a0.2.1.1,a0.2.1.2,a0.2.2.1,a0.2.2.2.1,a0.2.2.2.2.1,a0.2.2.2.2.2.1,a0.2.2.2.2.2.2.1,a0.2.2.2.2.2.2.2.1,a0.2.2.2.2.2.2.2.2.1,a0.2.2.2.2.2.2.2.2.2.1,a0.2.2.2.2.2.2.2.2.2.2.1,a0.2.2.2.2.2.2.2.2.2.2.2,()),(0,0,0,(),0,0,0,0,0,(),0,false,false,()),()),(([]:List dW),()))) (fun y2 =>let r4:=ykj y2.2.1.1.2.2.2.1;some (((y2.2.1.1.1,(y2.2.1.1.2.1,y2.2.1.1.2.2.1),r4,y2.2.1.1.2.2.2.2.1,y2.2.1.1.2.2.2.2.2.1,y2.2.1.1.2.2.2.2.2.2.1,y2.2.1.1.2.2.2.2.2.2.2.1,y2.2.1.1.2.2.2.2.2.2.2.2.1,y2.2.2.1,y2.2.1.1.2.2.2.2.2.2.2.2.2.2.1,y2.2.1.1.2.2.2.2.2.2.2.2.2.2.2.1,y2.2.1.1.2.2.2.2.2.2.2.2.2.2.2.2.1),()),())) (fun y2 =>none)
theorem yJa:ConOk prog 95 ⟨ylu,yrY,fun x=>yof x.1⟩:=zkI (yFh) func95 ntmps95.symm fun x=>by kernel_rfl
def ydh (a0:dA):dA:=a0
theorem yLW (a0:dA) (hk:zjx ylu (a0,())):yof a0=(fun n=>some ((n,()),())) (ydh a0):=by
 have hb:a0.2.2.2.2.2.2.2.2.1.length*32≤2^47:=hk.1.2.2.2.2.2.2.2.2.1.1
 have h1:=zkx (step:=ybr) a0.2.2.2.2.2.2.2.2.1 (0,[]) (fun i s=>ykO a0.2.2.2.2.2.2.2.2.1 a0.2.2.2.2.2.2.2.2.1.length i a0 ycX s) (fun s x=>s++ [x]) (fun i s=>s.length=i) (fun s=> .inl (yDP a0 ycX s)) (fun i s hi hs=>⟨by
   simp only[ybr,ykO,yk7,zky (show(i:Int)<a0.2.2.2.2.2.2.2.2.1.length by omega),cond_true,wq ((i:Int)+1) (by omega) (by omega),Int.natCast_add,Int.natCast_one,Int.toNat_natCast,zkR hi,zkS,yv,zkX]
   rw[zkF.2 (show(s.length+ [a0.2.2.2.2.2.2.2.2.1.getD i (0,[])].length)*32≤140737488355328 by simp only[List.length_cons,List.length_nil]; omega)]; rfl,by simp[hs]⟩) (fun s hs=>by simp only[ybr,ykO,yk7,zk3 (Int.le_refl _),cond_false]) [] rfl 18446744073709551616 (by omega)
 rw[ynY]at h1;unfold yof ydh;rw[show yl2 (yDW a0.2.2.2.2.2.2.2.2.1 a0.2.2.2.2.2.2.2.2.1.length a0 ycX [])=_ from h1]; rfl
def ynR:Con:=⟨ylu,yrY,fun x=>(fun n=>some ((n,()),())) (ydh x.1)⟩
theorem yz7:ConOk prog 95 ynR:=(yJa).mono (fun x r hk h=>(yLW x.1 hk).trans h)
def yNu:Code:=(f106.body).getD .skip
def yNX:Env:=zkw TT [(81,yL)] []
theorem yFn:FrOk prog ⟨yNX,11,fun _=>none⟩ yNu:=zkA mixed yd ⟨yam,trivial⟩
abbrev yrK:List Par:= [.rd tA,.rd tI]
abbrev yr0:List OT:= [⟨false,tB,.fz⟩]
def yyT (a0:dA) (a1:Int):Option (zaY yr0×zak yrK) :=let r1:=yf a1 0 (i64.wrap ((a0.2.2.1.length:Int)-1));some ((r1,()),())
theorem yJd:ConOk prog 106 ⟨yrK,yr0,fun x=>yyT x.1 x.2.1⟩:=zkI (yFn) func106 ntmps106.symm fun x=>by kernel_rfl
def yaW (a0:dA) (a1:Int):Bool :=let r1:=yf a1 0 (i64.wrap ((a0.2.2.1.length:Int)-1));r1
def yir:Con:=⟨yrK,yr0,fun x=>(fun n=>some ((n,()),())) (yaW x.1 x.2.1)⟩
theorem yLZ (a0:dA) (a1:Int):yyT a0 a1=(fun n=>some ((n,()),())) (yaW a0 a1):=zkV (p:=fun(n:Bool)=>((n,()),())) rfl
theorem yqq:ConOk prog 106 yir:=(yJd).mono (fun x r _ h=>(yLZ x.1 x.2.1).trans h)
def yP2:Code:=(f192.body).getD .skip
def yQq:Env:=zkw TT [] []
theorem yHs:FrOk prog ⟨yQq,26,fun _=>none⟩ yP2:=zkA mixed yd trivial
abbrev yuc:List Par:= [.pt tA (.pr .fz (.pr (.pr .fz .fz) (.pr (.ow (.pr (.ow (.ow .fz)) (.pr (.ow (.pr .fz (.ow .fz))) (.pr .fz (.ow .fz))))) (.pr .fz (.pr .fz (.pr .fz (.pr .fz (.pr .fz (.pr (.ow (.pr .fz (.ow .fz))) (.pr .fz (.pr .fz .fz)))))))))))]
abbrev yuw:List OT:= [⟨false,tB,.fz⟩]
def yAi (a0:dA):Option (zaY yuw×zak yuc) :=bif(a0.2.2.2.2.2.2.2.2.2.1==0)then some ((false,()),((a0.1,a0.2.1,a0.2.2.1,a0.2.2.2.1,a0.2.2.2.2.1,a0.2.2.2.2.2.1,a0.2.2.2.2.2.2.1,a0.2.2.2.2.2.2.2.1,a0.2.2.2.2.2.2.2.2.1,(-1),true,a0.2.2.2.2.2.2.2.2.2.2.2),())) else bif(ltb 0 a0.2.2.2.2.2.2.2.2.2.1)then some ((true,()),((a0.1,a0.2.1,a0.2.2.1,a0.2.2.2.1,a0.2.2.2.2.1,a0.2.2.2.2.2.1,a0.2.2.2.2.2.2.1,a0.2.2.2.2.2.2.2.1,a0.2.2.2.2.2.2.2.2.1,(i64.wrap (a0.2.2.2.2.2.2.2.2.2.1-1)),a0.2.2.2.2.2.2.2.2.2.2),())) else some ((true,()),(a0,()))
theorem yMh:ConOk prog 192 ⟨yuc,yuw,fun x=>yAi x.1⟩:=zkI (yHs) func192 ntmps192.symm fun x=>by kernel_rfl
def yfL (a0:dA):Bool×dA :=bif(a0.2.2.2.2.2.2.2.2.2.1==0)then (false,(a0.1,a0.2.1,a0.2.2.1,a0.2.2.2.1,a0.2.2.2.2.1,a0.2.2.2.2.2.1,a0.2.2.2.2.2.2.1,a0.2.2.2.2.2.2.2.1,a0.2.2.2.2.2.2.2.2.1,(-1),true,a0.2.2.2.2.2.2.2.2.2.2.2)) else bif(ltb 0 a0.2.2.2.2.2.2.2.2.2.1)then (true,(a0.1,a0.2.1,a0.2.2.1,a0.2.2.2.1,a0.2.2.2.2.1,a0.2.2.2.2.2.1,a0.2.2.2.2.2.2.1,a0.2.2.2.2.2.2.2.1,a0.2.2.2.2.2.2.2.2.1,(i64.wrap (a0.2.2.2.2.2.2.2.2.2.1-1)),a0.2.2.2.2.2.2.2.2.2.2)) else (true,a0)
def ypS:Con:=⟨yuc,yuw,fun x=>(fun n=>some ((n.1,()),(n.2,()))) (yfL x.1)⟩
theorem yOp (a0:dA):yAi a0=(fun n=>some ((n.1,()),(n.2,()))) (yfL a0):=zkV (p:=fun(n:Bool×dA)=>((n.1,()),(n.2,()))) (zkG (p:=fun(n:Bool×dA)=>((n.1,()),(n.2,()))) rfl (zkG (p:=fun(n:Bool×dA)=>((n.1,()),(n.2,()))) rfl rfl))
theorem yBi:ConOk prog 192 ypS:=(yMh).mono (fun x r _ h=>(yOp x.1).trans h)
theorem yLI {a:dA} (h:yi a=false):yfL a=yV a:=by
 unfold yfL yV;rw[h];cases(a.2.2.2.2.2.2.2.2.2.1==0)
 ·cases ltb 0 a.2.2.2.2.2.2.2.2.2.1
  ·rfl
  ·show(true,_)=(true,yRp a _ false)
   unfold yRp;rw[show a.2.2.2.2.2.2.2.2.2.2=(yi a,a.2.2.2.2.2.2.2.2.2.2.2)from rfl,h]
 ·rfl
def yEK:Code:=(f223.body).getD .skip
def yEV:Env:=zkw TT [] []
theorem yBI:FrOk prog ⟨yEV,7,fun _=>none⟩ yEK:=zkA mixed yd trivial
abbrev yme:List Par:= [.rd tI,.rp tI]
abbrev ymg:List OT:= [⟨false,tB,.fz⟩]
def yrj (a0 a1:Int):Option (zaY ymg×zak yme) :=some (((a0==a1),()),())
theorem yCG:ConOk prog 223 ⟨yme,ymg,fun x=>yrj x.1 x.2.1⟩:=zkI (yBI) func223 ntmps223.symm fun x=>by kernel_rfl
def ycD (a0 a1:Int):Bool :=(a0==a1)
def yje:Con:=⟨yme,ymg,fun x=>(fun n=>some ((n,()),())) (ycD x.1 x.2.1)⟩
theorem yEd (a0 a1:Int):yrj a0 a1=(fun n=>some ((n,()),())) (ycD a0 a1):=zkV (p:=fun(n:Bool)=>((n,()),())) rfl
theorem ytO:ConOk prog 223 yje:=(yCG).mono (fun x r _ h=>(yEd x.1 x.2.1).trans h)
def ydo:Code:=(f244.body).getD .skip
def ygT:Env:=zkw TT [(223,yje)] []
theorem ywA:FrOk prog ⟨ygT,19,fun _=>none⟩ ydo:=zkA mixed yd ⟨ytO,trivial⟩
def yko:Nat→Option Seg:=fun _=>none
def yF:Shape:=⟨[(0,false,[.br tI]),(1,false,[.fx 223 tI]),(7,false,[.int .i64]),(8,false,[.int .i64])],[],[]⟩
def yaw:Shape:=⟨[(0,false,[.br tI]),(1,false,[.fx 223 tI]),(7,false,[.int .i64]),(8,false,[.ci .i64 0])],[],[]⟩
def yav:Shape:=⟨[],[],[]⟩
def yax:Shape:=⟨[(4,false,[.int .i64])],[],[]⟩
abbrev yd3 (v0:List Int) (v1 v2 v3:Int):(yF).X:=(((v0,()),(v1,()),(v2,()),(v3,()),()),(),())
abbrev yu6 (v0:List Int) (v1 v2:Int):(yaw).X:=(((v0,()),(v1,()),(v2,()),((),()),()),(),())
abbrev yu5  :(yav).X:=((),(),())
abbrev yiT (v0:Int):(yax).X:=(((v0,()),()),(),())
def yd7 (v0:List Int) (v1 v2 v3:Int):Option ((yF).X ⊕ ((yav).X ⊕ (yax).X)) :=bif(ltb v3 v2)then bif(inb v3 v0.length)then let r2:=ycD (nth v0 v3 0) v1;bif r2 then some (.inr (.inr (((v3,()),()),(),()))) else some (.inl (((v0,()),(v1,()),(v2,()),((i64.wrap (v3+1)),()),()),(),())) else none else some (.inr (.inl ((),(),())))
def yJ (x:(yF).X):=yd7 x.1.1.1 x.1.2.1.1 x.1.2.2.1.1 x.1.2.2.2.1.1
def yiQ (x:(yaw).X):(yF).X:=(((x.1.1.1,()),(x.1.2.1.1,()),(x.1.2.2.1.1,()),(0,()),()),(),())
def yj8:Code:=(zd7 ydo 64 52).getD .skip
theorem ywz:zd7 ydo 64 13=some (.block 0 (.loop yj8)):=by kernel_rfl
theorem ywG (x:(yF).X):zhu ⟨ygT,19,yko⟩ 0 yj8 52 yF yav yax x=yJ x:=by kernel_rfl
def yiR (x:(yaw).X):Nat:=18446744073709551616
def yeJ (x:(yaw).X):Option ((yav).X ⊕ (yax).X):=zF yJ (yiR x) (yiQ x)
def yi6:Seg:=⟨yaw,yav,yax,yeJ⟩
def ywQ:Nat→Option Seg:=fun q=>bif Nat.beq q 13 then some yi6 else yko q
theorem ywB:FrOk prog ⟨ygT,19,ywQ⟩ ydo:=(ywA).loop (sg:=yi6) yF yiQ (by decide) ywz yJ yiR (by decide) (fun _=>rfl) (fun x r _ h=>h) ywG
abbrev ydp:List Par:= [.rd tL,.fn 223 tI]
abbrev ygV:List OT:= [⟨false,tI,.fz⟩]
def yfy (a0:List Int) (a1:Int):Option (zaY ygV×zak ydp) :=zkt (yeJ (((a0,()),(a1,()),((a0.length:Int),()),((),()),()),(),())) (fun y2 =>some (((-1),()),())) (fun y2 =>some ((y2.1.1.1,()),()))
theorem yyF:ConOk prog 244 ⟨ydp,ygV,fun x=>yfy x.1 x.2.1⟩:=zkI (ywB) func244 ntmps244.symm fun x=>by kernel_rfl
def ybH (a0:List Int) (a1:Int):Int:=yM (fun e:Int=>e==a1) a0
theorem yzg (a0:List Int) (a1:Int) (hk:zjx ydp (a0,a1,())):yfy a0 a1=(fun n=>some ((n,()),())) (ybH a0 a1):=by
 have hb:a0.length*8≤2^47:=hk.1.1
 have h1:yeJ (yu6 a0 a1 a0.length)=some (bif leb 0 (yM (fun e:Int=>e==a1) a0)then .inr (yiT (yM (fun e:Int=>e==a1) a0))else .inl yu5) :=
  yPS (step:=yJ) a0 0 (fun i=>yd3 a0 a1 a0.length i) (fun e:Int=>e==a1) (fun i=> .inr (yiT i)) _ (fun i hi=>by
   simp only[yJ,yd3,yd7,zky (show(i:Int)<a0.length by omega),cond_true,wq ((i:Int)+1) (by omega) (by omega),Int.natCast_add,Int.natCast_one,Int.toNat_natCast,zkR hi,zkS,ycD]
   cases(a0.getD i 0==a1)<;>rfl) (by simp only[yJ,yd3,yd7,zk3 (Int.le_refl _),cond_false]) _ (by show _<18446744073709551616; omega)
 unfold yfy ybH;rw[h1];cases h:leb 0 (yM (fun e:Int=>e==a1) a0)
 ·rw[yOn h]; rfl
 ·rfl
def ykL:Con:=⟨ydp,ygV,fun x=>(fun n=>some ((n,()),())) (ybH x.1 x.2.1)⟩
theorem yzh:ConOk prog 244 ykL:=(yyF).mono (fun x r hk h=>(yzg x.1 x.2.1 hk).trans h)
def ycV:Code:=(f222.body).getD .skip
def yfI:Env:=zkw TT [(223,yje),(244,ykL)] []
theorem yu3:FrOk prog ⟨yfI,42,fun _=>none⟩ ycV:=zkA mixed yd ⟨ytO,yzh,trivial⟩
def yjG:Nat→Option Seg:=fun _=>none
def yE:Shape:=⟨[(0,false,[.at 800000000]),(1,false,[.fx 223 tI]),(5,false,[.int .i64]),(6,false,[.int .i64])],[],[(800000000,tI,.fz)]⟩
def yaf:Shape:=⟨[(0,false,[.at 800000000]),(1,false,[.fx 223 tI]),(5,false,[.int .i64]),(6,false,[.int .i64])],[],[(800000000,tI,.fz)]⟩
def yae:Shape:=⟨[(0,false,[.at 800000000]),(5,false,[.int .i64])],[],[(800000000,tI,.fz)]⟩
def ybJ:Shape:=⟨[],[],[]⟩
abbrev ybm (v0 v1 v2:Int) (v3:List Int):(yE).X:=((((),()),(v0,()),(v1,()),(v2,()),()),(),(v3,()))
abbrev ytM (v0 v1 v2:Int) (v3:List Int):(yaf).X:=((((),()),(v0,()),(v1,()),(v2,()),()),(),(v3,()))
abbrev ytK (v0:Int) (v1:List Int):(yae).X:=((((),()),(v0,()),()),(),(v1,()))
def ydQ (v0 v1 v2:Int) (v3:List Int):Option ((yE).X ⊕ ((yae).X ⊕ (ybJ).X)) :=bif(ltb v2 (v3.length:Int))then bif(inb v2 v3.length)then let r3:=ycD (nth v3 v2 0) v0;bif(!r3)then bif(inb v1 v3.length)then some (.inl ((((),()),(v0,()),((i64.wrap (v1+1)),()),((i64.wrap (v2+1)),()),()),(),((v3.set (v1).toNat (nth v3 v2 0)),()))) else none else some (.inl ((((),()),(v0,()),(v1,()),((i64.wrap (v2+1)),()),()),(),(v3,()))) else none else some (.inr (.inl ((((),()),(v1,()),()),(),(v3,()))))
def yH (x:(yE).X):=ydQ x.1.2.1.1 x.1.2.2.1.1 x.1.2.2.2.1.1 x.2.2.1
def yia (x:(yaf).X):(yE).X:=((((),()),(x.1.2.1.1,()),(x.1.2.2.1.1,()),(x.1.2.2.2.1.1,()),()),(),(x.2.2.1,()))
def yiP:Code:=(zd7 ycV 64 244).getD .skip
theorem yu0:zd7 ycV 64 61=some (.block 0 (.loop yiP)):=by kernel_rfl
theorem yve (x:(yE).X):zhu ⟨yfI,42,yjG⟩ 0 yiP 244 yE yae ybJ x=yH x:=by kernel_rfl
def yib (x:(yaf).X):Nat:=18446744073709551616
def yd2 (x:(yaf).X):Option ((yae).X ⊕ (ybJ).X):=zF yH (yib x) (yia x)
def yic:Seg:=⟨yaf,yae,ybJ,yd2⟩
def ywy:Nat→Option Seg:=fun q=>bif Nat.beq q 61 then some yic else yjG q
theorem yu4:FrOk prog ⟨yfI,42,ywy⟩ ycV:=(yu3).loop (sg:=yic) yE yia (by decide) yu0 yH yib (by decide) (fun _=>rfl) (fun x r _ h=>h) yve
abbrev ycW:List Par:= [.kp tL (.ow .fz),.fn 223 tI]
abbrev yfJ:List OT:= [⟨false,tL,(.ow .fz)⟩]
def yeO (a0:List Int) (a1:Int):Option (zaY yfJ×zak ycW) :=let r1:=ybH a0 a1;bif(r1==(-1))then some ((a0,()),()) else zkt (yd2 ((((),()),(a1,()),(r1,()),((i64.wrap (r1+1)),()),()),(),(a0,()))) (fun y3 =>bif(zj0 y3.1.2.1.1 (y3.2.2.1.length:Int) y3.2.2.1.length)then bif(zj0 0 y3.1.2.1.1 (y3.2.2.1.take (y3.1.2.1.1).toNat++(List.replicate ((y3.2.2.1.length:Int)-y3.1.2.1.1).toNat (0:Int))++y3.2.2.1.drop ((y3.1.2.1.1).toNat+(List.replicate ((y3.2.2.1.length:Int)-y3.1.2.1.1).toNat (0:Int)).length)).length)then some (((((y3.2.2.1.take (y3.1.2.1.1).toNat++(List.replicate ((y3.2.2.1.length:Int)-y3.1.2.1.1).toNat (0:Int))++y3.2.2.1.drop ((y3.1.2.1.1).toNat+(List.replicate ((y3.2.2.1.length:Int)-y3.1.2.1.1).toNat (0:Int)).length)).drop (0:Int).toNat).take (y3.1.2.1.1-0).toNat),()),()) else none else none) (fun y3 =>none)
theorem ywE:ConOk prog 222 ⟨ycW,yfJ,fun x=>yeO x.1 x.2.1⟩:=zkI (yu4) func222 ntmps222.symm fun x=>by kernel_rfl
def ya9 (a0:List Int) (a1:Int):List Int:=yPC a0 a1
theorem yyE (a0:List Int) (a1:Int) (hk:zjx ycW (a0,a1,())):yeO a0 a1=(fun n=>some ((n,()),())) (ya9 a0 a1):=by
 have hb:a0.length*8≤2^47:=hk.1.1;have hs:yPC a0 a1=a0.filter (fun x=> !(x==a1)):=rfl;unfold yeO ya9 ybH;simp only[];cases hi:leb 0 (yM (fun e:Int=>e==a1) a0)
 ·rw[yOn hi,hs,yTP hi]; rfl
 ·obtain⟨h1,h2⟩:=yso (d:=(0:Int)) hi
  have h3:=zj6.1 h1;have h4:=yPR hi;generalize hk0:yM (fun e:Int=>e==a1) a0=k at *;obtain⟨k,rfl⟩: ∃m:Nat,k=m:=⟨k.toNat,by omega⟩;rw[Int.toNat_natCast]at h4;rw[show((k:Int)== -1)=false from beq_eq_false_iff_ne.2 (by omega),cond_false,wq ((k:Int)+1) (by omega) (by omega)]
  obtain⟨b,e,i,s,rfl,q1,q2,q3⟩:=zjj (step:=yH) (fun x=>(a0.length-Int.toNat x.1.2.2.2.1.1))
   (fun x=> ∃(i j:Nat) (s:List Int),x=ybm a1 i j s∧i<j∧j≤a0.length∧s.length=a0.length∧s.take i=(a0.take j).filter (fun x=> !(x==a1))∧s.drop j=a0.drop j)
   (fun b=> ∃(i:Nat) (s:List Int),b= .inl (ytK i s)∧i≤a0.length∧s.length=a0.length∧s.take i=a0.filter (fun x=> !(x==a1)))
   (fun x hx=>by
    obtain⟨i,j,s,rfl,p1,p2,p3,p4,p5⟩:=hx;by_cases hj:j<a0.length
    ·left
     have e1:nth s j 0=a0[j]:=by
      rw[zkS,zkJ (by omega)];have:=List.getElem_drop (xs:=s) (i:=j) (j:=0) (h:=by rw[List.length_drop]; omega);have h6:(s.drop j)[0]'(by rw[List.length_drop]; omega)=(a0.drop j)[0]'(by rw[List.length_drop]; omega):=by simp only[p5]
      simpa using h6
     have e2:a0.take (j+1)=a0.take j++ [a0[j]]:=(List.take_append_getElem hj).symm;simp only[yH,ybm,ydQ,p3,zky (show(j:Int)<a0.length by omega),zkR hj,zkR (show i<a0.length by omega),e1,ycD,wq ((j:Int)+1) (by omega) (by omega),wq ((i:Int)+1) (by omega) (by omega),cond_true,Int.toNat_natCast];cases hx:(a0[j]==a1)
     ·refine⟨_,rfl,⟨i+1,j+1,s.set i a0[j],rfl,by omega,by omega,by rw[List.length_set,p3],?_,?_⟩,by show a0.length-((j:Int)+1).toNat<a0.length-((j:Int)).toNat; omega⟩
      ·rw[List.take_set,← List.take_append_getElem (show i<s.length by omega),List.set_append_right _ _ (by rw[List.length_take]; omega),p4,e2,List.filter_append,List.filter_cons,hx]
       have:i-(List.filter (fun x=> !x==a1) (a0.take j)).length=0:=by rw[← p4,List.length_take]; omega
       rw[this]; rfl
      ·rw[List.drop_set_of_lt (by omega),← List.drop_drop,p5,List.drop_drop]
     ·refine⟨_,rfl,⟨i,j+1,s,rfl,by omega,by omega,p3,?_,?_⟩,by show a0.length-((j:Int)+1).toNat<a0.length-((j:Int)).toNat; omega⟩
      ·rw[p4,e2,List.filter_append,List.filter_cons,hx]; simp
      ·rw[← List.drop_drop,p5,List.drop_drop]
    ·right
     have:j=a0.length:=by omega
     subst this;rw[List.take_length]at p4;refine⟨_,?_,i,s,rfl,by omega,p3,p4⟩
     simp only[yH,ybm,ydQ,p3,zk3 (Int.le_refl _),cond_false]) 18446744073709551616 (ybm a1 k (k+1:Nat) a0) ⟨k,k+1,a0,rfl,by omega,by omega,rfl,h4.symm,rfl⟩ (by show a0.length-((k+1:Nat):Int).toNat<18446744073709551616; omega)
  rw[show((k+1:Nat):Int)=(k:Int)+1 by omega]at e;rw[show yd2 (ytM a1 k ((k:Int)+1) a0)=_ from e];rw[hs,← q3]
  have hL:(s.take i++List.replicate ((s.length:Int)-i).toNat (0:Int)++s.drop ((i:Int).toNat+(List.replicate ((s.length:Int)-i).toNat (0:Int)).length)).length=s.length:=by
   simp only[List.length_append,List.length_take,List.length_replicate,List.length_drop]; omega
  show(bif zj0 i s.length s.length then bif zj0 0 i (s.take i++List.replicate ((s.length:Int)-i).toNat (0:Int)++s.drop ((i:Int).toNat+(List.replicate ((s.length:Int)-i).toNat (0:Int)).length)).length then some ((((s.take i++List.replicate ((s.length:Int)-i).toNat (0:Int)++s.drop ((i:Int).toNat+(List.replicate ((s.length:Int)-i).toNat (0:Int)).length)).drop 0).take ((i:Int)-0).toNat,()),())else none else none)=some ((s.take i,()),());rw[hL,zkz.2 (show 0≤(i:Int)∧(i:Int)≤s.length∧(s.length:Int)≤s.length by omega),zkz.2 (show(0:Int)≤0∧(0:Int)≤i∧(i:Int)≤s.length by omega),List.drop_zero,show((i:Int)-0).toNat=i by omega,List.append_assoc,List.take_append_of_le_length (by rw[List.length_take]; omega),List.take_take,Nat.min_self]; rfl
def yka:Con:=⟨ycW,yfJ,fun x=>(fun n=>some ((n,()),())) (ya9 x.1 x.2.1)⟩
theorem yyH:ConOk prog 222 yka:=(ywE).mono (fun x r hk h=>(yyE x.1 x.2.1 hk).trans h)
end
end Go.Tf
