/- Functions of the program, and what they come to. -/
import Derived.Test.YtolmneojjjpnjaaGreatSureF4
namespace Go.Tf
noncomputable section
open Go.Proofs Go.Proofs.Tryz
set_option synthInstance.maxHeartbeats 400000
set_option synthInstance.maxSize 10000
set_option linter.unusedVariables false
set_option linter.unusedSimpArgs false
set_option maxRecDepth 100000
def ynG:Code:=(f54.body).getD .skip
def yvq:Env:=zku TT [(68,yEg),(123,yjs)] []
theorem yLb:FrOk prog ⟨yvq,32,fun _=>none⟩ ynG:=zky yg yh ⟨yWh,yqt,trivial⟩
def yA6:Nat→Option Seg:=fun _=>none
def ybQ:Shape:=⟨[(1,false,[.ptr 0 0]),(3,false,[.at 800000000]),(15,false,[.int .i64]),(16,false,[.int .i64])],[(0,[.int .i64,.int .i64,.int .i64,.br tM,.int .i64,.int .i64,.int .i64,.int .i64,.int .i64,.br tW,.int .i64,.bool,.bool])],[(800000000,tI,.fz)]⟩
def yfG:Shape:=⟨[(1,false,[.ptr 0 0]),(3,false,[.at 800000000]),(15,false,[.int .i64]),(16,false,[.ci .i64 0])],[(0,[.int .i64,.int .i64,.int .i64,.br tM,.int .i64,.int .i64,.int .i64,.int .i64,.int .i64,.br tW,.int .i64,.bool,.bool])],[(800000000,tI,.fz)]⟩
def yfu:Shape:=⟨[(3,false,[.at 800000000])],[],[(800000000,tI,.fz)]⟩
def yfR:Shape:=⟨[(2,false,[.nil])],[],[]⟩
abbrev ym3 (v0 v1:Int) (v2:dA) (v3:List Int):(ybQ).X:=((((),()),((),()),(v0,()),(v1,()),()),((v2.1,v2.2.1.1,v2.2.1.2,v2.2.2.1,v2.2.2.2.1,v2.2.2.2.2.1,v2.2.2.2.2.2.1,v2.2.2.2.2.2.2.1,v2.2.2.2.2.2.2.2.1,v2.2.2.2.2.2.2.2.2.1,v2.2.2.2.2.2.2.2.2.2.1,v2.2.2.2.2.2.2.2.2.2.2.1,v2.2.2.2.2.2.2.2.2.2.2.2,()),()),(v3,()))
abbrev yJD (v0:Int) (v1:dA) (v2:List Int):(yfG).X:=((((),()),((),()),(v0,()),((),()),()),((v1.1,v1.2.1.1,v1.2.1.2,v1.2.2.1,v1.2.2.2.1,v1.2.2.2.2.1,v1.2.2.2.2.2.1,v1.2.2.2.2.2.2.1,v1.2.2.2.2.2.2.2.1,v1.2.2.2.2.2.2.2.2.1,v1.2.2.2.2.2.2.2.2.2.1,v1.2.2.2.2.2.2.2.2.2.2.1,v1.2.2.2.2.2.2.2.2.2.2.2,()),()),(v2,()))
abbrev yxM (v0:List Int):(yfu).X:=((((),()),()),(),(v0,()))
abbrev yJO  :(yfR).X:=((((),()),()),(),())
def yns (v0 v1 v2 v3 v4:Int) (v5:List dM) (v6 v7 v8 v9 v10:Int) (v11:List dW) (v12:Int) (v13 v14:Bool) (v15:List Int):Option ((ybQ).X ⊕ ((yfu).X ⊕ (yfR).X)) :=bif(ltb v1 v0)then let r3:=yk0 (v2,(v3,v4),v5,v6,v7,v8,v9,v10,v11,v12,v13,v14) v1;bif(!r3.2)then some (.inr (.inr ((((),()),()),(),()))) else bif(zkj v15.length r3.1.length 8)then some (.inl ((((),()),((),()),(v0,()),((IntKind.i64.wrap (v1+1)),()),()),((v2,v3,v4,v5,v6,v7,v8,v9,v10,v11,v12,v13,v14,()),()),((v15++r3.1),()))) else none else some (.inr (.inl ((((),()),()),(),(v15,()))))
def yb9 (x:(ybQ).X):=yns x.1.2.2.1.1 x.1.2.2.2.1.1 x.2.1.1.1 x.2.1.1.2.1 x.2.1.1.2.2.1 x.2.1.1.2.2.2.1 x.2.1.1.2.2.2.2.1 x.2.1.1.2.2.2.2.2.1 x.2.1.1.2.2.2.2.2.2.1 x.2.1.1.2.2.2.2.2.2.2.1 x.2.1.1.2.2.2.2.2.2.2.2.1 x.2.1.1.2.2.2.2.2.2.2.2.2.1 x.2.1.1.2.2.2.2.2.2.2.2.2.2.1 x.2.1.1.2.2.2.2.2.2.2.2.2.2.2.1 x.2.1.1.2.2.2.2.2.2.2.2.2.2.2.2.1 x.2.2.1
def yxi (x:(yfG).X):(ybQ).X:=((((),()),((),()),(x.1.2.2.1.1,()),(0,()),()),((x.2.1.1.1,x.2.1.1.2.1,x.2.1.1.2.2.1,x.2.1.1.2.2.2.1,x.2.1.1.2.2.2.2.1,x.2.1.1.2.2.2.2.2.1,x.2.1.1.2.2.2.2.2.2.1,x.2.1.1.2.2.2.2.2.2.2.1,x.2.1.1.2.2.2.2.2.2.2.2.1,x.2.1.1.2.2.2.2.2.2.2.2.2.1,x.2.1.1.2.2.2.2.2.2.2.2.2.2.1,x.2.1.1.2.2.2.2.2.2.2.2.2.2.2.1,x.2.1.1.2.2.2.2.2.2.2.2.2.2.2.2.1,()),()),(x.2.2.1,()))
def yzF:Code:=(zeJ ynG 64 244).getD .skip
theorem yKY:zeJ ynG 64 61=some (.block 0 (.loop yzF)):=by kernel_rfl
theorem yML (x:(ybQ).X):zhu ⟨yvq,32,yA6⟩ 0 yzF 244 ybQ yfu yfR x=yb9 x:=by kernel_rfl
def yxx (x:(yfG).X):Nat:=18446744073709551616
def yoA (x:(yfG).X):Option ((yfu).X ⊕ (yfR).X):=zF yb9 (yxx x) (yxi x)
def yxX:Seg:=⟨yfG,yfu,yfR,yoA⟩
def yNf:Nat→Option Seg:=fun q=>bif Nat.beq q 61 then some yxX else yA6 q
theorem yLc:FrOk prog ⟨yvq,32,yNf⟩ ynG:=(yLb).loop (sg:=yxX) ybQ yxi (by decide) yKY yb9 yxx (by decide) (fun _=>rfl) (fun x r _ h=>h) yML
abbrev ynS:List Par:= [.rd tA]
abbrev yvQ:List OT:= [⟨false,tL,(.ow .fz)⟩]
def yrd (a0:dA):Option (zaY yvQ×zak ynS) :=let r1:=ydw a0.2.1;bif(!r1)then some ((([]:List Int),()),()) else zkr (yoA ((((),()),((),()),(a0.2.1.2,()),((),()),()),((a0.1,a0.2.1.1,a0.2.1.2,a0.2.2.1,a0.2.2.2.1,a0.2.2.2.2.1,a0.2.2.2.2.2.1,a0.2.2.2.2.2.2.1,a0.2.2.2.2.2.2.2.1,a0.2.2.2.2.2.2.2.2.1,a0.2.2.2.2.2.2.2.2.2.1,a0.2.2.2.2.2.2.2.2.2.2.1,a0.2.2.2.2.2.2.2.2.2.2.2,()),()),(([]:List Int),()))) (fun y3 =>some ((y3.2.2.1,()),())) (fun y3 =>some (([],()),()))
theorem yPx:ConOk prog 54 ⟨ynS,yvQ,fun x=>yrd x.1⟩:=zkG (yLc) func54 ntmps54.symm fun x=>by kernel_rfl
def yga (a0:dA):List Int:=yoe a0
theorem ySA (a0:dA) (hk:zjw ynS (a0,())):yrd a0=(fun n=>some ((n,()),())) (yga a0):=by
 unfold yrd yga yoe;rw[yJo];cases hg0:ye a0.2.1
 ·rw[show yal a0=false by unfold yal; rw[hg0]; rfl]; rfl
 have hg:=yn.1 hg0
 have h1:yoA (yJD a0.2.1.2 a0 [])=some (bif(List.range a0.2.1.2.toNat).all (fun(s:Nat)=>(ydv a0 s).2)then .inl (yxM ((List.range a0.2.1.2.toNat).foldl (fun l (s:Nat)=>l++(ydv a0 s).1) []))else .inr (yJO)) :=
  zhU (step:=yb9) a0.2.1.2.toNat (fun i s=>ym3 a0.2.1.2 i a0 s) (fun(s:Nat)=>(ydv a0 s).2) (fun l (s:Nat)=>l++(ydv a0 s).1) (fun i s=>s.length≤4*i) (fun s=> .inl (yxM s)) _ (fun i s hi hs=>by
   have:=y08 i hg0;refine⟨?_,fun _=>by rw[List.length_append]; omega⟩;simp only[yb9,ym3,yns,zkw (show(i:Int)<a0.2.1.2 by omega),cond_true,wq ((i:Int)+1) (by omega) (by omega),Int.natCast_add,Int.natCast_one,Int.toNat_natCast,zkV,yk0,zkD.2 (show(s.length+(ydv a0 i).1.length)*8≤140737488355328 by omega)]
   cases(ydv a0 i).2<;>rfl) (fun s hs=>by simp only[yb9,ym3,yns,zk1 (show a0.2.1.2≤(a0.2.1.2.toNat:Int)by omega),cond_false]) [] (Nat.zero_le _) _ (by show _<18446744073709551616; omega)
 rw[h1,yW3];cases ha:yal a0
 ·have:(List.range a0.2.1.2.toNat).all (fun(s:Nat)=>(ydv a0 s).2)=false:=by
   rw[List.all_eq_false];refine⟨0,List.mem_range.2 (by omega),?_⟩;unfold ydv;rw[ha]; simp
  rw[this]; rfl
 ·cases(List.range a0.2.1.2.toNat).all (fun(s:Nat)=>(ydv a0 s).2)<;>rfl
def yCf:Con:=⟨ynS,yvQ,fun x=>(fun n=>some ((n,()),())) (yga x.1)⟩
theorem yTC:ConOk prog 54 yCf:=(yPx).mono (fun x r hk h=>(ySA x.1 hk).trans h)
def yZb:Code:=(f56.body).getD .skip
def yZn:Env:=zku TT [] []
theorem yRG:FrOk prog ⟨yZn,7,fun _=>none⟩ yZb:=zky yg yh trivial
abbrev yBu:List Par:= [.rd tA]
abbrev yBF:List OT:= [⟨false,tB,.fz⟩]
def yGB (a0:dA):Option (zaY yBF×zak yBu) :=some ((((a0.2.2.2.2.2.2.2.2.1.length:Int)==0),()),())
theorem yVU:ConOk prog 56 ⟨yBu,yBF,fun x=>yGB x.1⟩:=zkG (yRG) func56 ntmps56.symm fun x=>by kernel_rfl
def yt1 (a0:dA):Bool :=((a0.2.2.2.2.2.2.2.2.1.length:Int)==0)
def yFZ:Con:=⟨yBu,yBF,fun x=>(fun n=>some ((n,()),())) (yt1 x.1)⟩
theorem yYr (a0:dA):yGB a0=(fun n=>some ((n,()),())) (yt1 a0):=zkT (p:=fun(n:Bool)=>((n,()),())) rfl
theorem yYR:ConOk prog 56 yFZ:=(yVU).mono (fun x r _ h=>(yYr x.1).trans h)
def yXB:Code:=(f6.body).getD .skip
def yX7:Env:=zku TT [(14,yII),(19,yCi),(34,yzW),(48,yHx),(49,yz1),(52,yCm),(53,yz2),(54,yCf),(55,yf6),(56,yFZ)] []
theorem yN3:FrOk prog ⟨yX7,73,fun _=>none⟩ yXB:=zky yg yh ⟨y0x,yTF,yP2,yZ0,yP7,yTJ,yP8,yTC,ylb,yYR,trivial⟩
abbrev yqa:List Par:= [.kp tYs .fz]
abbrev yyR:List OT:= [⟨false,tB,.fz⟩]
def yuh (a0:List Int):Option (zaY yyR×zak yqa) :=let r1:=yt2 a0;bif r1 then some ((true,()),()) else bnd (ygZ a0) fun r2 =>bnd (yfZ a0) fun r3 =>let r4:=yga r2.1.1;let r5:=ye8 r2.1.1;let r6:=yjC r5.2.2.1 r3.1.2.1 r2.1.1.1 (-1);bif((r4.length:Int)==0)then bif r6.2 then let r7:=yaj r6.1;some ((r7,()),()) else some ((false,()),()) else bif r6.2 then let r8:=yga r6.1;let r9:=yfa r8 r4;bif r9 then let r10:=yt1 r6.1;bif r10 then bif(r6.1.2.2.2.1==r2.1.1.2.2.2.1)then bif(r6.1.2.2.2.2.2.2.1==r6.1.2.2.2.2.2.1)then let r11:=ypP r6.1;bif r11 then let r12:=yaj r6.1;some ((r12,()),()) else some ((false,()),()) else some ((false,()),()) else some ((false,()),()) else some ((false,()),()) else some ((false,()),()) else some ((false,()),())
theorem yTd:ConOk prog 6 ⟨yqa,yyR,fun x=>yuh x.1⟩:=zkG (yN3) func6 ntmps6.symm fun x=>by kernel_rfl
def yzk (a0:List Int):Bool:=true
theorem y2J (a:dA):(ye8 a).2.2.1=a.2.2.1:=by unfold ye8; cases yal a<;>rfl
theorem yVy (a0:List Int) (hk:zjw yqa (a0,())):yuh a0=(fun n=>some ((n,()),())) (yzk a0):=by
 have hb:a0.length≤140737488355328:=by have:a0.length*1≤2^47:=hk.1.1; omega
 obtain⟨a,V,e1,hw,hi⟩:=y0n a0 hb;obtain⟨a2,ks,n,e2,_,_⟩:=y0o a0 hb;obtain⟨x,W,Lf,ex,⟨hW,hLf⟩,bx⟩:=y0z (fuse:= -1) hi.x.xk (y1D hi) (by omega) ks (by omega);subst hW hLf;obtain⟨ux,_,tx,_⟩:=bx.up (y1t ex);unfold yuh yzk;simp only[e1,e2,zkF,yga,y2J,yjC,ex,yaj,ySj ux,yt1,bx.bc,bx.bl,tx,ypP,y3g ux,beq_self_eq_true];by_cases h0:(yoe a).length=0
 ·rw[show(((yoe a).length:Int)==0)=true from beq_iff_eq.2 (by omega)]
  cases yt2 a0<;>rfl
 ·have hf:=yZE hi.x h0
  have hfx:=y1A bx (fun s s0 s1=>y3y hi s0 s1 (hf s s0 s1));rw[show(((yoe a).length:Int)==0)=false from beq_eq_false_iff_ne.2 (by omega),yJn ux hfx,yJn hi.x hf,bx.bg,yY5];cases yt2 a0<;>rfl
def yRz:Con:=⟨yqa,yyR,fun x=>(fun n=>some ((n,()),())) (yzk x.1)⟩
theorem yWn:ConOk prog 6 yRz:=(yTd).mono (fun x r hk h=>(yVy x.1 hk).trans h)
end
end Go.Tf
