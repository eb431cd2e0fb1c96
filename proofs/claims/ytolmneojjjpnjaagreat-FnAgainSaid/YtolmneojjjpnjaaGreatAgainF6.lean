/- Functions of the program, and what they come to. -/
import Derived.Test.YtolmneojjjpnjaaGreatAgainF5
namespace Go.Tf
noncomputable section
open Go.Proofs Go.Proofs.Tryz
set_option synthInstance.maxHeartbeats 400000
set_option synthInstance.maxSize 10000
set_option linter.unusedVariables false
set_option linter.unusedSimpArgs false
set_option maxRecDepth 100000
section
def yGM:Code:=(f171.body).getD .skip
def yHo:Env:=zj0 TT [(174,ype),(208,ypf)] []
theorem yOy:FrOk prog ⟨yHo,17,fun _=>none⟩ yGM:=zj4 yc yd ⟨yyk,yyl,trivial⟩
def yQf:Nat→Option Seg:=fun _=>none
abbrev yk7:List Par:= [.pt tA (.pr .fz (.pr (.pr .fz .fz) (.pr (.ow (.pr (.ow .fz) (.pr (.ow (.pr .fz .fz)) (.pr .fz (.ow .fz))))) (.pr .fz (.pr .fz (.pr .fz (.pr .fz (.pr .fz (.pr (.ow (.pr .fz .fz)) (.pr .fz (.pr .fz .fz)))))))))))]
abbrev yrp:List OT:= []
def yuE (a0:dA):Option (ResD yrp×MutD yk7) :=
 let r1:=ydY a0
 bif r1.2.2.2.2.2.2.2.2.2.2.1 then
 some ((),(r1,()))
 else
 let r2:=yaE (r1.1,r1.2.1,r1.2.2.1,r1.2.2.2.1,r1.2.2.2.2.1,r1.2.2.2.2.2.1,r1.2.2.2.2.2.1,r1.2.2.2.2.2.2.2)
 some ((),(r2,()))
theorem yX7 (x:InD yk7):zju ⟨yHo,17,yQf⟩ f171.results.toList yGM yk7 yrp x=yuE x.1:=by kernel_rfl
theorem ySN:ConOk prog 171 ⟨yk7,yrp,fun x=>yuE x.1⟩:=zjZ (yOy) func171 (by kernel_rfl) (by kernel_rfl) ntmps171.symm (by decide) (fun x r h=>(yX7 x).trans h)
def ygV (a0:dA):dA :=
 let r1:=ydY a0
 bif r1.2.2.2.2.2.2.2.2.2.2.1 then
 r1
 else
 let r2:=yaE (r1.1,r1.2.1,r1.2.2.1,r1.2.2.2.1,r1.2.2.2.2.1,r1.2.2.2.2.2.1,r1.2.2.2.2.2.1,r1.2.2.2.2.2.2.2)
 r2
def yue:Con:=⟨yk7,yrp,fun x=>(fun n=>some ((),(n,()))) (ygV x.1)⟩
theorem yVZ (a0:dA):yuE a0=(fun n=>some ((),(n,()))) (ygV a0):=zkn (p:=fun(n:dA)=>((),(n,()))) (zj9 (p:=fun(n:dA)=>((),(n,()))) rfl rfl)
theorem yGf:ConOk prog 171 yue:=(ySN).mono (fun x r _ h=>(yVZ x.1).trans h)
theorem yJ4 (a:dA):ygV a=checkA a:=by
 unfold ygV checkA ydY yaE;show(bif downA (yb a)then yb a else markA (yB (yb a)))=_;rfl
end
section
def yGN:Code:=(f217.body).getD .skip
def yHp:Env:=zj0 TT [(169,yHJ),(170,yFW),(171,yue)] []
theorem yOz:FrOk prog ⟨yHp,54,fun _=>none⟩ yGN:=zj4 yc yd ⟨y1K,yZE,yGf,trivial⟩
def yQg:Nat→Option Seg:=fun _=>none
abbrev yer:List Par:= [.pt tA (.pr .fz (.pr (.pr .fz .fz) (.pr (.ow (.pr (.ow .fz) (.pr (.ow (.pr .fz .fz)) (.pr .fz (.ow .fz))))) (.pr .fz (.pr .fz (.pr .fz (.pr .fz (.pr .fz (.pr (.ow (.pr .fz .fz)) (.pr .fz (.pr .fz .fz))))))))))),.rd tI,.rd tL]
abbrev ylo:List OT:= [⟨false,tI,.fz⟩]
def ymR (a0:dA) (a1:Int) (a2:List Int):Option (ResD ylo×MutD yer) :=
 bif(leb 4 (IntKind.i64.wrap (a0.2.2.2.2.2.1-a0.2.2.2.2.2.2.1)))then
 let r1:=ygV a0
 bif r1.2.2.2.2.2.2.2.2.2.2.1 then
 some ((6,()),(r1,()))
 else
 bif(zjO ([]:List Int).length a2.length 8)then
 let r2:=ylN r1 (r1.2.2.2.2.2.1,a1,(([]:List Int)++a2))
 bif r2.2.2.2.2.2.2.2.2.2.2.1 then
 some ((6,()),(r2,()))
 else
 bnd (yig (r2.1,r2.2.1,r2.2.2.1,r2.2.2.2.1,r2.2.2.2.2.1,(IntKind.i64.wrap (r2.2.2.2.2.2.1+1)),r2.2.2.2.2.2.2) a1 a2) fun r3 =>
 bif r3.2.1.2.2.2.2.2.2.2.2.2.2.1 then
 some ((6,()),(r3.2.1,()))
 else
 some ((0,()),(r3.2.1,()))
 else none
 else
 bif a0.2.2.2.2.2.2.2.2.2.2.1 then
 some ((6,()),(a0,()))
 else
 bif(zjO ([]:List Int).length a2.length 8)then
 let r4:=ylN a0 (a0.2.2.2.2.2.1,a1,(([]:List Int)++a2))
 bif r4.2.2.2.2.2.2.2.2.2.2.1 then
 some ((6,()),(r4,()))
 else
 bnd (yig (r4.1,r4.2.1,r4.2.2.1,r4.2.2.2.1,r4.2.2.2.2.1,(IntKind.i64.wrap (r4.2.2.2.2.2.1+1)),r4.2.2.2.2.2.2) a1 a2) fun r5 =>
 bif r5.2.1.2.2.2.2.2.2.2.2.2.2.1 then
 some ((6,()),(r5.2.1,()))
 else
 some ((0,()),(r5.2.1,()))
 else none
theorem yX8 (x:InD yer):zju ⟨yHp,54,yQg⟩ f217.results.toList yGN yer ylo x=ymR x.1 x.2.1 x.2.2.1:=by kernel_rfl
theorem ySO:ConOk prog 217 ⟨yer,ylo,fun x=>ymR x.1 x.2.1 x.2.2.1⟩:=zjZ (yOz) func217 (by kernel_rfl) (by kernel_rfl) ntmps217.symm (by decide) (fun x r h=>(yX8 x).trans h)
def ylO (a0:dA) (a1:Int) (a2:List Int):Int×dA:=yv a0 a1 a2
def ylV (a0:dA) (a1:Int) (a2:List Int):Bool:=strOk a0.2.1 a1&&((a2.length:Int)==a0.2.1.1-1&&(a0.2.2.1.length:Int)==a0.2.1.1)
theorem yV0 (a0:dA) (a1:Int) (a2:List Int) (hk:zi0 yer (a0,a1,a2,())) (hq:ylV a0 a1 a2=true):ymR a0 a1 a2=(fun n=>some ((n.1,()),(n.2,()))) (ylO a0 a1 a2):=by
 have hq':=hq;simp only[ylV,Bool.and_eq_true,beq_iff_eq]at hq;have hg:=yg.1 (yG.1 hq.1).1;have hap:zjO ([]:List Int).length a2.length 8=true:=zj8.2 (by simp only[List.length_nil]; omega)
 have key: ∀b:dA,b.2.1=a0.2.1→b.2.2.1.length=a0.2.2.1.length→yig (yu (yj b (b.2.2.2.2.2.1,a1,a2))) a1 a2=some ((),(yp (yu (yj b (b.2.2.2.2.2.1,a1,a2))) a1 a2,())):=fun b h1 h2=>yZI _ _ _ (by
  unfold ynU;rw[show(yu (yj b (b.2.2.2.2.2.1,a1,a2))).2.1=a0.2.1 from(yO (yaT _ _)).trans h1,show(yu (yj b (b.2.2.2.2.2.1,a1,a2))).2.2.1.length=a0.2.2.1.length from(yNm _ _).trans h2]
  exact hq')
 unfold ymR ylO yv yk;simp only[yJ4,ylN,List.nil_append,hap,cond_true]
 cases leb 4 (IntKind.i64.wrap (a0.2.2.2.2.2.1-a0.2.2.2.2.2.2.1))
 ·have hd:=key a0 rfl rfl
  simp only[cond_false];generalize yj a0 (a0.2.2.2.2.2.1,a1,a2)=R at hd ⊢;generalize yp (yu R) a1 a2=Q at hd ⊢;unfold yu at hd;simp only[cond_false,hd,zka];unfold downA
  cases a0.2.2.2.2.2.2.2.2.2.2.1
  ·cases R.2.2.2.2.2.2.2.2.2.2.1
   ·cases Q.2.2.2.2.2.2.2.2.2.2.1<;>rfl
   ·rfl
  ·rfl
 ·have hd:=key (checkA a0) (yZV a0) (y4p a0)
  simp only[cond_true];generalize checkA a0=C at hd ⊢;generalize yj C (C.2.2.2.2.2.1,a1,a2)=R at hd ⊢;generalize yp (yu R) a1 a2=Q at hd ⊢;unfold yu at hd;simp only[cond_true,hd,zka];unfold downA
  cases C.2.2.2.2.2.2.2.2.2.2.1
  ·cases R.2.2.2.2.2.2.2.2.2.2.1
   ·cases Q.2.2.2.2.2.2.2.2.2.2.1<;>rfl
   ·rfl
  ·rfl
def yrH (a0:dA) (a1:Int) (a2:List Int):Option (ResD ylo×MutD yer):=bif ylV a0 a1 a2 then(fun n=>some ((n.1,()),(n.2,()))) (ylO a0 a1 a2)else none
theorem yW1 (a0:dA) (a1:Int) (a2:List Int) (h:ylV a0 a1 a2=true):yrH a0 a1 a2=(fun n=>some ((n.1,()),(n.2,()))) (ylO a0 a1 a2):=by unfold yrH; rw[h]; rfl
def yDc:Con:=⟨yer,ylo,fun x=>yrH x.1 x.2.1 x.2.2.1⟩
theorem yWU:ConOk prog 217 yDc:=(ySO).mono (fun x r hk h=>zkq h (fun hq=>yV0 x.1 x.2.1 x.2.2.1 hk hq))
end
section
def yGO:Code:=(f179.body).getD .skip
def yHq:Env:=zj0 TT [(215,yz8),(216,yFV),(217,yDc)] [(36928,(.pr .fz .fz))]
theorem yOA:FrOk prog ⟨yHq,63,fun _=>none⟩ yGO:=zj4 yc yd ⟨yMQ,yZD,yWU,trivial⟩
def yQh:Nat→Option Seg:=fun _=>none
abbrev yes:List Par:= [.pt tA (.pr .fz (.pr (.pr .fz .fz) (.pr (.ow (.pr (.ow .fz) (.pr (.ow (.pr .fz .fz)) (.pr .fz (.ow .fz))))) (.pr .fz (.pr .fz (.pr .fz (.pr .fz (.pr .fz (.pr (.ow (.pr .fz .fz)) (.pr .fz (.pr .fz .fz))))))))))),.rd tI]
abbrev ylp:List OT:= [⟨false,tI,.fz⟩]
def ymS (a0:dA) (a1:Int):Option (ResD ylp×MutD yes) :=
 let r1:=yjS a0 a1
 bif(ltb r1 0)then
 some ((0,()),(a0,()))
 else
 bif(inb r1 a0.2.2.2.2.2.2.2.2.1.length)then
 let r2:=yX a0 a1 ((nth a0.2.2.2.2.2.2.2.2.1 r1 (0,[])).2)
 bif(r2 !=0)then
 some ((r2,()),(a0,()))
 else
 bif(inb r1 a0.2.2.2.2.2.2.2.2.1.length)then
 bnd (yrH a0 a1 ((nth a0.2.2.2.2.2.2.2.2.1 r1 (0,[])).2)) fun r3 =>
 bif(r3.1.1==0)then
 bif(zjt 0 r1 r3.2.1.2.2.2.2.2.2.2.2.1.length)then
 bif(zjO ([]:List dW).length ((r3.2.1.2.2.2.2.2.2.2.2.1.drop (0:Int).toNat).take (r1-0).toNat).length 32)then
 bif(zjt (IntKind.i64.wrap (r1+1)) (r3.2.1.2.2.2.2.2.2.2.2.1.length:Int) r3.2.1.2.2.2.2.2.2.2.2.1.length)then
 bif(zjO (([]:List dW)++((r3.2.1.2.2.2.2.2.2.2.2.1.drop (0:Int).toNat).take (r1-0).toNat)).length ((r3.2.1.2.2.2.2.2.2.2.2.1.drop ((IntKind.i64.wrap (r1+1))).toNat).take ((r3.2.1.2.2.2.2.2.2.2.2.1.length:Int)-(IntKind.i64.wrap (r1+1))).toNat).length 32)then
 some ((r3.1.1,()),((r3.2.1.1,r3.2.1.2.1,r3.2.1.2.2.1,r3.2.1.2.2.2.1,r3.2.1.2.2.2.2.1,r3.2.1.2.2.2.2.2.1,r3.2.1.2.2.2.2.2.2.1,r3.2.1.2.2.2.2.2.2.2.1,((([]:List dW)++((r3.2.1.2.2.2.2.2.2.2.2.1.drop (0:Int).toNat).take (r1-0).toNat))++((r3.2.1.2.2.2.2.2.2.2.2.1.drop ((IntKind.i64.wrap (r1+1))).toNat).take ((r3.2.1.2.2.2.2.2.2.2.2.1.length:Int)-(IntKind.i64.wrap (r1+1))).toNat)),r3.2.1.2.2.2.2.2.2.2.2.2),()))
 else none
 else none
 else none
 else none
 else
 some ((r3.1.1,()),(r3.2.1,()))
 else none
 else none
theorem yX9 (x:InD yes):zju ⟨yHq,63,yQh⟩ f179.results.toList yGO yes ylp x=ymS x.1 x.2.1:=by kernel_rfl
theorem ySP:ConOk prog 179 ⟨yes,ylp,fun x=>ymS x.1 x.2.1⟩:=zjZ (yOA) func179 (by kernel_rfl) (by kernel_rfl) ntmps179.symm (by decide) (fun x r h=>(yX9 x).trans h)
def ylP (a0:dA) (a1:Int):Int×dA:=flushE a0 a1
def yyq (a0:dA) (a1:Int):Bool:=decide (a0.2.2.2.2.2.2.2.2.1.length≤1000)
theorem yV1 (a0:dA) (a1:Int) (hk:zi0 yes (a0,a1,())) (hq:yyq a0 a1=true):ymS a0 a1=(fun n=>some ((n.1,()),(n.2,()))) (ylP a0 a1):=by
 have hq:=of_decide_eq_true hq;unfold ymS ylP flushE;simp only[yjS]
 cases h0:ltb (yP a0.2.2.2.2.2.2.2.2.1 a1) 0
 ·have h1:=zko h0
  have hi:inb (yP a0.2.2.2.2.2.2.2.2.1 a1) a0.2.2.2.2.2.2.2.2.1.length=true:=(yqj (d:=((0:Int),([]:List Int))) (zku h1)).1;simp only[hi,cond_true,cond_false];generalize hD:(nth a0.2.2.2.2.2.2.2.2.1 (yP a0.2.2.2.2.2.2.2.2.1 a1) (0,[])).2=D
  cases hc:(yX a0 a1 D !=0)
  ·obtain⟨ha,hl,hw,hd,hs,hb,_⟩:=yFB (bne_eq_false_iff_eq.1 hc)
   rw[yW1 a0 a1 D (by unfold ylV; rw[hs,hl,yLp ha]; simp)];simp only[zka,cond_false,ylO,y3s];have hk:=zjA.1 hi
   cases hr:((yv a0 a1 D).1==0)
   ·rfl
   ·generalize yP a0.2.2.2.2.2.2.2.2.1 a1=K at h1 hk
    rw[wr (show -9223372036854775808≤K+1 by omega) (by omega),zj3.2 (show(0:Int)≤0∧0≤K∧K≤(a0.2.2.2.2.2.2.2.2.1.length:Int)by omega),zj3.2 (show 0≤K+1∧K+1≤(a0.2.2.2.2.2.2.2.2.1.length:Int)∧(a0.2.2.2.2.2.2.2.2.1.length:Int)≤(a0.2.2.2.2.2.2.2.2.1.length:Int)by omega),
     zj8.2 (by rw[List.length_take,List.length_drop,List.length_nil]; omega),zj8.2 (by rw[List.length_append,List.length_take,List.length_take,List.length_drop,List.length_drop,List.length_nil]; omega),y4s h1 hk.2]
    rw[beq_iff_eq.1 hr]; rfl
  ·rfl
 ·rfl
def ycM (a0:dA) (a1:Int):Option (ResD ylp×MutD yes):=bif yyq a0 a1 then(fun n=>some ((n.1,()),(n.2,()))) (ylP a0 a1)else none
theorem yGi (a0:dA) (a1:Int) (h:yyq a0 a1=true):ycM a0 a1=(fun n=>some ((n.1,()),(n.2,()))) (ylP a0 a1):=by unfold ycM; rw[h]; rfl
def yuf:Con:=⟨yes,ylp,fun x=>ycM x.1 x.2.1⟩
theorem yGg:ConOk prog 179 yuf:=(ySP).mono (fun x r hk h=>zkq h (fun hq=>yV1 x.1 x.2.1 hk hq))
end
section
def ypO:Code:=(f117.body).getD .skip
def yvt:Env:=zj0 TT [(179,yuf)] []
theorem yVh:FrOk prog ⟨yvt,22,fun _=>none⟩ ypO:=zj4 yc yd ⟨yGg,trivial⟩
def yG9:Nat→Option Seg:=fun _=>none
def yev:Shape:=⟨[(0,false,[.ptr 1000000000 0])],[(1000000000,[.int .i64,.int .i64,.int .i64,.at 800000000,.int .i64,.int .i64,.int .i64,.int .i64,.int .i64,.at 800000001,.int .i64,.bool,.bool])],[(800000000,tM,(.pr (.ow .fz) (.pr (.ow (.pr .fz .fz)) (.pr .fz (.ow .fz))))),(800000001,tW,(.pr .fz .fz))]⟩
def ylg:Shape:=⟨[(0,false,[.ptr 1000000000 0])],[(1000000000,[.int .i64,.int .i64,.int .i64,.at 800000000,.int .i64,.int .i64,.int .i64,.int .i64,.int .i64,.at 800000001,.int .i64,.bool,.bool])],[(800000000,tM,(.pr (.ow .fz) (.pr (.ow (.pr .fz .fz)) (.pr .fz (.ow .fz))))),(800000001,tW,(.pr .fz .fz))]⟩
def ylc:Shape:=⟨[],[(1000000000,[.int .i64,.int .i64,.int .i64,.at 800000000,.int .i64,.int .i64,.int .i64,.int .i64,.int .i64,.at 800000001,.int .i64,.bool,.bool])],[(800000000,tM,(.pr (.ow .fz) (.pr (.ow (.pr .fz .fz)) (.pr .fz (.ow .fz))))),(800000001,tW,(.pr .fz .fz))]⟩
def ylr:Shape:=⟨[(2,false,[.int .i64])],[(1000000000,[.int .i64,.int .i64,.int .i64,.at 800000000,.int .i64,.int .i64,.int .i64,.int .i64,.int .i64,.at 800000001,.int .i64,.bool,.bool])],[(800000000,tM,(.pr (.ow .fz) (.pr (.ow (.pr .fz .fz)) (.pr .fz (.ow .fz))))),(800000001,tW,(.pr .fz .fz))]⟩
abbrev ywF (v0:dA):(yev).X:=((((),()),()),((v0.1,v0.2.1.1,v0.2.1.2,(),v0.2.2.2.1,v0.2.2.2.2.1,v0.2.2.2.2.2.1,v0.2.2.2.2.2.2.1,v0.2.2.2.2.2.2.2.1,(),v0.2.2.2.2.2.2.2.2.2.1,v0.2.2.2.2.2.2.2.2.2.2.1,v0.2.2.2.2.2.2.2.2.2.2.2,()),()),(v0.2.2.1,v0.2.2.2.2.2.2.2.2.1,()))
abbrev yVy (v0:dA):(ylg).X:=((((),()),()),((v0.1,v0.2.1.1,v0.2.1.2,(),v0.2.2.2.1,v0.2.2.2.2.1,v0.2.2.2.2.2.1,v0.2.2.2.2.2.2.1,v0.2.2.2.2.2.2.2.1,(),v0.2.2.2.2.2.2.2.2.2.1,v0.2.2.2.2.2.2.2.2.2.2.1,v0.2.2.2.2.2.2.2.2.2.2.2,()),()),(v0.2.2.1,v0.2.2.2.2.2.2.2.2.1,()))
abbrev yVu (v0:dA):(ylc).X:=((),((v0.1,v0.2.1.1,v0.2.1.2,(),v0.2.2.2.1,v0.2.2.2.2.1,v0.2.2.2.2.2.1,v0.2.2.2.2.2.2.1,v0.2.2.2.2.2.2.2.1,(),v0.2.2.2.2.2.2.2.2.2.1,v0.2.2.2.2.2.2.2.2.2.2.1,v0.2.2.2.2.2.2.2.2.2.2.2,()),()),(v0.2.2.1,v0.2.2.2.2.2.2.2.2.1,()))
abbrev yVB (v0:Int) (v1:dA):(ylr).X:=(((v0,()),()),((v1.1,v1.2.1.1,v1.2.1.2,(),v1.2.2.2.1,v1.2.2.2.2.1,v1.2.2.2.2.2.1,v1.2.2.2.2.2.2.1,v1.2.2.2.2.2.2.2.1,(),v1.2.2.2.2.2.2.2.2.2.1,v1.2.2.2.2.2.2.2.2.2.2.1,v1.2.2.2.2.2.2.2.2.2.2.2,()),()),(v1.2.2.1,v1.2.2.2.2.2.2.2.2.1,()))
def yxf (v0 v1 v2 v3 v4 v5 v6 v7 v8:Int) (v9 v10:Bool) (v11:List dM) (v12:List dW):Option ((yev).X ⊕ ((ylc).X ⊕ (ylr).X)) :=
 bif(ltb 0 (v12.length:Int))then
 bif(inb 0 v12.length)then
 bnd (ycM (v0,(v1,v2),v11,v3,v4,v5,v6,v7,v12,v8,v9,v10) ((nth v12 0 (0,[])).1)) fun r2 =>
 bif(r2.1.1 !=0)then
 some (.inr (.inr (((r2.1.1,()),()),((r2.2.1.1,r2.2.1.2.1.1,r2.2.1.2.1.2,(),r2.2.1.2.2.2.1,r2.2.1.2.2.2.2.1,r2.2.1.2.2.2.2.2.1,r2.2.1.2.2.2.2.2.2.1,r2.2.1.2.2.2.2.2.2.2.1,(),r2.2.1.2.2.2.2.2.2.2.2.2.1,r2.2.1.2.2.2.2.2.2.2.2.2.2.1,r2.2.1.2.2.2.2.2.2.2.2.2.2.2,()),()),(r2.2.1.2.2.1,r2.2.1.2.2.2.2.2.2.2.2.1,()))))
 else
 some (.inl ((((),()),()),((r2.2.1.1,r2.2.1.2.1.1,r2.2.1.2.1.2,(),r2.2.1.2.2.2.1,r2.2.1.2.2.2.2.1,r2.2.1.2.2.2.2.2.1,r2.2.1.2.2.2.2.2.2.1,r2.2.1.2.2.2.2.2.2.2.1,(),r2.2.1.2.2.2.2.2.2.2.2.2.1,r2.2.1.2.2.2.2.2.2.2.2.2.2.1,r2.2.1.2.2.2.2.2.2.2.2.2.2.2,()),()),(r2.2.1.2.2.1,r2.2.1.2.2.2.2.2.2.2.2.1,())))
 else none
 else
 some (.inr (.inl ((),((v0,v1,v2,(),v3,v4,v5,v6,v7,(),v8,v9,v10,()),()),(v11,v12,()))))
def yeG (x:(yev).X):=yxf x.2.1.1.1 x.2.1.1.2.1 x.2.1.1.2.2.1 x.2.1.1.2.2.2.2.1 x.2.1.1.2.2.2.2.2.1 x.2.1.1.2.2.2.2.2.2.1 x.2.1.1.2.2.2.2.2.2.2.1 x.2.1.1.2.2.2.2.2.2.2.2.1 x.2.1.1.2.2.2.2.2.2.2.2.2.2.1 x.2.1.1.2.2.2.2.2.2.2.2.2.2.2.1 x.2.1.1.2.2.2.2.2.2.2.2.2.2.2.2.1 x.2.2.1 x.2.2.2.1
def yFZ (x:(ylg).X):(yev).X:=((((),()),()),((x.2.1.1.1,x.2.1.1.2.1,x.2.1.1.2.2.1,(),x.2.1.1.2.2.2.2.1,x.2.1.1.2.2.2.2.2.1,x.2.1.1.2.2.2.2.2.2.1,x.2.1.1.2.2.2.2.2.2.2.1,x.2.1.1.2.2.2.2.2.2.2.2.1,(),x.2.1.1.2.2.2.2.2.2.2.2.2.2.1,x.2.1.1.2.2.2.2.2.2.2.2.2.2.2.1,x.2.1.1.2.2.2.2.2.2.2.2.2.2.2.2.1,()),()),(x.2.2.1,x.2.2.2.1,()))
def yHz:Code:=(zef ypO 64 24).getD .skip
theorem yXC:zef ypO 64 6=some (.block 0 (.loop yHz)):=by kernel_rfl
theorem yZL (x:(yev).X):zg0 ⟨yvt,22,yG9⟩ 0 yHz 24 yev ylc ylr x=yeG x:=by kernel_rfl
def yF3 (x:(ylg).X):Nat:=18446744073709551616
def yx3 (x:(ylg).X):Option ((ylc).X ⊕ (ylr).X):=zz yeG (yF3 x) (yFZ x)
def yGl:Seg:=⟨ylg,ylc,ylr,yx3⟩
def yHa:Nat→Option Seg:=fun q=>bif Nat.beq q 6 then some yGl else yG9 q
theorem yVi:FrOk prog ⟨yvt,22,yHa⟩ ypO:=(yVh).loop (sg:=yGl) yev yFZ (by decide) yXC yeG yF3 (by decide) (fun _=>rfl) (fun x r _ h=>h) yZL
abbrev yg3:List Par:= [.pt tA (.pr .fz (.pr (.pr .fz .fz) (.pr (.ow (.pr (.ow .fz) (.pr (.ow (.pr .fz .fz)) (.pr .fz (.ow .fz))))) (.pr .fz (.pr .fz (.pr .fz (.pr .fz (.pr .fz (.pr (.ow (.pr .fz .fz)) (.pr .fz (.pr .fz .fz)))))))))))]
abbrev yqc:List OT:= [⟨false,tI,.fz⟩]
def yrW (a0:dA):Option (ResD yqc×MutD yg3) :=
 zjW (yx3 ((((),()),()),((a0.1,a0.2.1.1,a0.2.1.2,(),a0.2.2.2.1,a0.2.2.2.2.1,a0.2.2.2.2.2.1,a0.2.2.2.2.2.2.1,a0.2.2.2.2.2.2.2.1,(),a0.2.2.2.2.2.2.2.2.2.1,a0.2.2.2.2.2.2.2.2.2.2.1,a0.2.2.2.2.2.2.2.2.2.2.2,()),()),(a0.2.2.1,a0.2.2.2.2.2.2.2.2.1,()))) (fun y2 =>
 some ((0,()),((y2.2.1.1.1,(y2.2.1.1.2.1,y2.2.1.1.2.2.1),y2.2.2.1,y2.2.1.1.2.2.2.2.1,y2.2.1.1.2.2.2.2.2.1,y2.2.1.1.2.2.2.2.2.2.1,y2.2.1.1.2.2.2.2.2.2.2.1,y2.2.1.1.2.2.2.2.2.2.2.2.1,y2.2.2.2.1,y2.2.1.1.2.2.2.2.2.2.2.2.2.2.1,y2.2.1.1.2.2.2.2.2.2.2.2.2.2.2.1,y2.2.1.1.2.2.2.2.2.2.2.2.2.2.2.2.1),()))) (fun y2 =>
 some ((y2.1.1.1,()),((y2.2.1.1.1,(y2.2.1.1.2.1,y2.2.1.1.2.2.1),y2.2.2.1,y2.2.1.1.2.2.2.2.1,y2.2.1.1.2.2.2.2.2.1,y2.2.1.1.2.2.2.2.2.2.1,y2.2.1.1.2.2.2.2.2.2.2.1,y2.2.1.1.2.2.2.2.2.2.2.2.1,y2.2.2.2.1,y2.2.1.1.2.2.2.2.2.2.2.2.2.2.1,y2.2.1.1.2.2.2.2.2.2.2.2.2.2.2.1,y2.2.1.1.2.2.2.2.2.2.2.2.2.2.2.2.1),())))
theorem y2s (x:InD yg3):zju ⟨yvt,22,yHa⟩ f117.results.toList ypO yg3 yqc x=yrW x.1:=by kernel_rfl
theorem yZh:ConOk prog 117 ⟨yg3,yqc,fun x=>yrW x.1⟩:=zjZ (yVi) func117 (by kernel_rfl) (by kernel_rfl) ntmps117.symm (by decide) (fun x r h=>(y2s x).trans h)
def ywL (a0:dA):Int×dA:=allE a0
def yD1 (a0:dA):Bool:=decide (a0.2.2.2.2.2.2.2.2.1.length≤1000)
theorem y1u (a0:dA) (hk:zi0 yg3 (a0,())) (hq:yD1 a0=true):yrW a0=(fun n=>some ((n.1,()),(n.2,()))) (ywL a0):=by
 have hq:=of_decide_eq_true hq
 have h1:=zj5 (step:=yeG) a0.2.2.2.2.2.2.2.2.1.length (fun _ s=>ywF s) yn7 (fun i s=>s.2.2.2.2.2.2.2.2.1.length+i=a0.2.2.2.2.2.2.2.2.1.length) (fun b=>(0,b))
  (fun r=>bif r.1==0 then .inl (yVu r.2)else .inr (yVB r.1 r.2)) (fun i s hi hs=>by
   have hp:0<s.2.2.2.2.2.2.2.2.1.length:=by omega
   constructor
   ·simp only[yeG,ywF,yxf,zkp,zj2 (show(0:Int)<(s.2.2.2.2.2.2.2.2.1.length:Int)by omega),cond_true,show inb 0 s.2.2.2.2.2.2.2.2.1.length=true from zkj (i:=0) hp]
    rw[yGi s (nth s.2.2.2.2.2.2.2.2.1 0 (0,[])).1 (decide_eq_true (show s.2.2.2.2.2.2.2.2.1.length≤1000 by omega))];simp only[zka,ylP];unfold yn7;generalize flushE s (nth s.2.2.2.2.2.2.2.2.1 0 (0,[])).1=R
    cases hr:(R.1 !=0)
    ·rfl
    ·simp only[cond_true]
     rw[show(R.1==0)=false from beq_eq_false_iff_ne.2 (bne_iff_ne.1 hr)]; rfl
   ·intro s' h
    unfold yn7 at h
    cases hr:((flushE s (nth s.2.2.2.2.2.2.2.2.1 0 (0,[])).1).1 !=0)
    ·rw[hr]at h
     simp only[cond_false,Sum.inl.injEq]at h;rw[← h,y31 hp (bne_eq_false_iff_eq.1 hr),List.length_drop]; omega
    ·rw[hr]at h; cases h) (fun s hs=>by
   simp only[yeG,ywF,yxf,show ltb 0 (s.2.2.2.2.2.2.2.2.1.length:Int)=false from zkv (by omega)]; rfl) a0 rfl 18446744073709551616 (by omega)
 unfold yrW ywL allE;refine(congrArg (fun z=>zjW z _ _) (show yx3 (yVy a0)=_ from h1)).trans ?_;generalize goE yn7 (fun b=>(0,b)) a0.2.2.2.2.2.2.2.2.1.length 0 a0=R
 cases hr:(R.1==0)
 ·rfl
 ·simp only[cond_true,zkf,zkp]
  rw[show R.1=0 from beq_iff_eq.1 hr]
def yqC (a0:dA):Option (ResD yqc×MutD yg3):=bif yD1 a0 then(fun n=>some ((n.1,()),(n.2,()))) (ywL a0)else none
theorem y1O (a0:dA) (h:yD1 a0=true):yqC a0=(fun n=>some ((n.1,()),(n.2,()))) (ywL a0):=by unfold yqC; rw[h]; rfl
def yHK:Con:=⟨yg3,yqc,fun x=>yqC x.1⟩
theorem y1L:ConOk prog 117 yHK:=(yZh).mono (fun x r hk h=>zkq h (fun hq=>y1u x.1 hk hq))
end
section
def yJf:Code:=(f120.body).getD .skip
def yJN:Env:=zj0 TT [(80,yru)] []
theorem yQ9:FrOk prog ⟨yJN,6,fun _=>none⟩ yJf:=zj4 yc yd ⟨yAf,trivial⟩
def yTO:Nat→Option Seg:=fun _=>none
abbrev yno:List Par:= [.pt tU .fz]
abbrev ytB:List OT:= [⟨false,tI,.fz⟩]
def yaq (a0:dU):Option (ResD ytB×MutD yno) :=
 bnd (ycN a0 ([0,1,2,7,255,256,4660,65535]:List Int)) fun r1 =>
 some ((r1.1.1,()),(r1.2.1,()))
theorem y0T (x:InD yno):zju ⟨yJN,6,yTO⟩ f120.results.toList yJf yno ytB x=yaq x.1:=by kernel_rfl
theorem yWq:ConOk prog 120 ⟨yno,ytB,fun x=>yaq x.1⟩:=zjZ (yQ9) func120 (by kernel_rfl) (by kernel_rfl) ntmps120.symm (by decide) (fun x r h=>(y0T x).trans h)
def yFN:Con:=⟨yno,ytB,fun x=>yaq x.1⟩
theorem yZv:ConOk prog 120 yFN:=yWq
theorem y5P (u:List Int×Int×Int) (h:yb7 u): ∃(r:Int) (u':List Int×Int×Int),yaq u=some ((r,()),(u',()))∧ya r 0 65535=true∧yb7 u':=by
 unfold yaq;obtain⟨r1,u1,e1,q1,d1⟩:=y13 u [0,1,2,7,255,256,4660,65535] h (by simp);simp only[e1,zka];refine⟨_,_,rfl,?_,d1⟩;simp only[List.mem_cons,List.not_mem_nil,or_false]at q1;exact y6L (by omega) (by omega)
end
section
def yEE:Code:=(f203.body).getD .skip
def yFg:Env:=zj0 TT [(174,ype),(177,ywi),(178,ypd)] []
theorem yL4:FrOk prog ⟨yFg,27,fun _=>none⟩ yEE:=zj4 yc yd ⟨yyk,yH7,yyj,trivial⟩
def yND:Nat→Option Seg:=fun _=>none
abbrev yc2:List Par:= [.pt tA (.pr .fz (.pr (.pr .fz .fz) (.pr (.ow (.pr (.ow .fz) (.pr (.ow (.pr .fz .fz)) (.pr .fz (.ow .fz))))) (.pr .fz (.pr .fz (.pr .fz (.pr .fz (.pr .fz (.pr (.ow (.pr .fz .fz)) (.pr .fz (.pr .fz .fz)))))))))))]
abbrev yi8:List OT:= [⟨false,tI,.fz⟩]
def ykA (a0:dA):Option (ResD yi8×MutD yc2) :=
 let r1:=ycg a0.2.1
 let r2:=ydW r1
 bif(inb a0.2.2.2.1 a0.2.2.1.length)then
 let r3:=yaE (a0.1,a0.2.1,(a0.2.2.1.set (a0.2.2.2.1).toNat r2),a0.2.2.2.1,0,a0.2.2.2.2.2)
 bif r3.2.2.2.2.2.2.2.2.2.2.1 then
 some ((6,()),(r3,()))
 else
 some ((0,()),(r3,()))
 else none
theorem yUC (x:InD yc2):zju ⟨yFg,27,yND⟩ f203.results.toList yEE yc2 yi8 x=ykA x.1:=by kernel_rfl
theorem yPn:ConOk prog 203 ⟨yc2,yi8,fun x=>ykA x.1⟩:=zjZ (yL4) func203 (by kernel_rfl) (by kernel_rfl) ntmps203.symm (by decide) (fun x r h=>(yUC x).trans h)
def ypj (a0:dA):Int×dA:=(bif downA (markA (spareNew a0))then 6 else 0,markA (spareNew a0))
def yjJ (a0:dA):Bool:=n_spec_GeoOk a0.2.1&&inb a0.2.2.2.1 a0.2.2.1.length
theorem ySn (a0:dA) (hk:zi0 yc2 (a0,())) (hq:yjJ a0=true):ykA a0=(fun n=>some ((n.1,()),(n.2,()))) (ypj a0):=by
 simp only[yjJ,Bool.and_eq_true]at hq;have hg:=yg.1 hq.1;unfold ykA ypj;simp only[ycg,wr (show -9223372036854775808≤6+a0.2.1.2 by omega) (by omega),hq.2,ydW,yaE];show(bif downA (markA (spareNew a0))then some ((6,()),(markA (spareNew a0),()))else some ((0,()),(markA (spareNew a0),())))=_
 cases downA (markA (spareNew a0))<;>rfl
def yjH (a0:dA):Option (ResD yi8×MutD yc2):=bif yjJ a0 then(fun n=>some ((n.1,()),(n.2,()))) (ypj a0)else none
theorem yTa (a0:dA) (h:yjJ a0=true):yjH a0=(fun n=>some ((n.1,()),(n.2,()))) (ypj a0):=by unfold yjH; rw[h]; rfl
def yBe:Con:=⟨yc2,yi8,fun x=>yjH x.1⟩
theorem yS6:ConOk prog 203 yBe:=(yPn).mono (fun x r hk h=>zkq h (fun hq=>ySn x.1 hk hq))
end
section
def yGK:Code:=(f204.body).getD .skip
def yHm:Env:=zj0 TT [(113,yfD),(206,ylw),(227,yud)] []
theorem yOq:FrOk prog ⟨yHm,49,fun _=>none⟩ yGK:=zj4 yc yd ⟨ylT,ytT,yGe,trivial⟩
def yQd:Nat→Option Seg:=fun _=>none
abbrev yen:List Par:= [.pt tA (.pr .fz (.pr (.pr .fz .fz) (.pr (.ow (.pr (.ow .fz) (.pr (.ow (.pr .fz .fz)) (.pr .fz (.ow .fz))))) (.pr .fz (.pr .fz (.pr .fz (.pr .fz (.pr .fz (.pr (.ow (.pr .fz .fz)) (.pr .fz (.pr .fz .fz)))))))))))]
abbrev yll:List OT:= [⟨false,tI,.fz⟩]
def ymN (a0:dA):Option (ResD yll×MutD yen) :=
 bnd (ylS a0 a0.2.2.2.2.1) fun r1 =>
 bif(!r1.1.2.1)then
 some ((5,()),(a0,()))
 else
 let r2:=ybl a0.2.2.2.2.1
 bif(inb a0.2.2.2.1 r1.1.1.length)then
 bnd (yfe a0 a0.2.2.2.1 r2 ([(nth r1.1.1 a0.2.2.2.1 0)]:List Int)) fun r3 =>
 bif r3.2.1.2.2.2.2.2.2.2.2.2.2.1 then
 some ((6,()),(r3.2.1,()))
 else
 some ((0,()),((r3.2.1.1,r3.2.1.2.1,r3.2.1.2.2.1,r3.2.1.2.2.2.1,(IntKind.i64.wrap (r3.2.1.2.2.2.2.1+1)),r3.2.1.2.2.2.2.2),()))
 else none
theorem yX2 (x:InD yen):zju ⟨yHm,49,yQd⟩ f204.results.toList yGK yen yll x=ymN x.1:=by kernel_rfl
theorem ySI:ConOk prog 204 ⟨yen,yll,fun x=>ymN x.1⟩:=zjZ (yOq) func204 (by kernel_rfl) (by kernel_rfl) ntmps204.symm (by decide) (fun x r h=>(yX2 x).trans h)
def yrB (a0:dA):Int×dA:=stepOne a0
def ylU (a0:dA):Bool:=n_spec_GeoOk a0.2.1&&(inb a0.2.2.2.1 a0.2.2.1.length&&inb a0.2.2.2.1 a0.2.1.1.toNat)
theorem yVV (a0:dA) (hk:zi0 yen (a0,())) (hq:ylU a0=true):ymN a0=(fun n=>some ((n.1,()),(n.2,()))) (yrB a0):=by
 simp only[ylU,Bool.and_eq_true]at hq;unfold ymN yrB stepOne;rw[yGh a0 a0.2.2.2.2.1 hq.1];simp only[zka,ygU,ygY]
 cases hw:(yA a0 a0.2.2.2.2.1).2
 ·rfl
 ·rw[yNb hw,hq.2.2,ynT a0 a0.2.2.2.1 (dataAt a0.2.2.2.2.1) [nth (yA a0 a0.2.2.2.2.1).1 a0.2.2.2.1 0] hq.2.1]
  simp only[zka,yqB,Bool.not_true,cond_false,cond_true];show(bif downA (yaf a0)then some ((6,()),(yaf a0,()))else some ((0,()),(y4L (yaf a0),())))=_
  cases downA (yaf a0)<;>rfl
def ylR (a0:dA):Option (ResD yll×MutD yen):=bif ylU a0 then(fun n=>some ((n.1,()),(n.2,()))) (yrB a0)else none
theorem yWZ (a0:dA) (h:ylU a0=true):ylR a0=(fun n=>some ((n.1,()),(n.2,()))) (yrB a0):=by unfold ylR; rw[h]; rfl
def yDa:Con:=⟨yen,yll,fun x=>ylR x.1⟩
theorem yWS:ConOk prog 204 yDa:=(ySI).mono (fun x r hk h=>zkq h (fun hq=>yVV x.1 hk hq))
end
section
def yJk:Code:=(f163.body).getD .skip
def yJS:Env:=zj0 TT [(72,yay),(83,yFO),(108,yC9),(112,yBb),(113,yfD),(117,yHK),(118,yHM),(119,ypc),(120,yFN),(171,yue),(179,yuf),(203,yBe),(204,yDa)] []
theorem yRn:FrOk prog ⟨yJS,160,fun _=>none⟩ yJk:=zj4 yc yd ⟨ybQ,yZw,yWR,yS3,ylT,y1L,y1N,yyi,yZv,yGf,yGg,yS6,yWS,trivial⟩
def yTT:Nat→Option Seg:=fun _=>none
abbrev yh:List Par:= [.pt tU .fz,.pt tA (.pr .fz (.pr (.pr .fz .fz) (.pr (.ow (.pr (.ow .fz) (.pr (.ow (.pr .fz .fz)) (.pr .fz (.ow .fz))))) (.pr .fz (.pr .fz (.pr .fz (.pr .fz (.pr .fz (.pr (.ow (.pr .fz .fz)) (.pr .fz (.pr .fz .fz)))))))))))]
abbrev yi:List OT:= []
def ydx (a0:dU) (a1:dA):Option (ResD yi×MutD yh) :=
 bnd (yf a0 14) fun r1 =>
 let k1:Option (ResD yi×MutD yh) :=
 bnd (yaY r1.2.1 3) fun r9 =>
 bif r9.1.1 then
 bif(a1.2.2.2.1==(-1))then
 bnd (yf r9.2.1 a1.2.1.1) fun r10 =>
 bnd (ylQ a1 r10.1.1) fun r11 =>
 some ((),(r10.2.1,r11.2.1,()))
 else
 some ((),(r9.2.1,a1,()))
 else
 some ((),(r9.2.1,a1,()))
 let k2:Option (ResD yi×MutD yh) :=
 bif(inb a1.2.2.2.1 a1.2.2.1.length)then
 bif(((nth a1.2.2.1 a1.2.2.2.1 ([],[],false,[])).2).2).1 then
 bnd (yjH a1) fun r12 =>
 some ((),(r1.2.1,r12.2.1,()))
 else
 some ((),(r1.2.1,a1,()))
 else none
 let k3:Option (ResD yi×MutD yh) :=
 bif(leb 0 a1.2.2.2.1)then
 k2
 else
 some ((),(r1.2.1,a1,()))
 let k4:Option (ResD yi×MutD yh) :=
 bif(inb a1.2.2.2.1 a1.2.2.1.length)then
 bif(!((((nth a1.2.2.1 a1.2.2.2.1 ([],[],false,[])).2).2).1))then
 bif(ltb a1.2.2.2.2.1 a1.2.1.2)then
 bnd (ylR a1) fun r13 =>
 some ((),(r1.2.1,r13.2.1,()))
 else
 some ((),(r1.2.1,a1,()))
 else
 some ((),(r1.2.1,a1,()))
 else none
 let k5:Option (ResD yi×MutD yh) :=
 bif(leb 0 a1.2.2.2.1)then
 k4
 else
 some ((),(r1.2.1,a1,()))
 let k6:Option (ResD yi×MutD yh) :=
 bnd (yaY r1.2.1 3) fun r15 =>
 bif r15.1.1 then
 bnd (yf r15.2.1 a1.2.1.1) fun r16 =>
 bif(inb r16.1.1 a1.2.2.1.length)then
 bnd (yf r16.2.1 a1.2.1.2) fun r17 =>
 let r18:=ybl r17.1.1
 let r19:=ypi ((nth a1.2.2.1 r16.1.1 ([],[],false,[])).1,((nth a1.2.2.1 r16.1.1 ([],[],false,[])).2).1,(((nth a1.2.2.1 r16.1.1 ([],[],false,[])).2).2)) r18
 bif(inb r16.1.1 a1.2.2.1.length)then
 some ((),(r17.2.1,(a1.1,a1.2.1,(a1.2.2.1.set (r16.1.1).toNat r19),a1.2.2.2),()))
 else none
 else none
 else
 some ((),(r15.2.1,a1,()))
 let k7:Option (ResD yi×MutD yh) :=
 bif(a1.2.2.2.1==(-1))then
 k6
 else
 some ((),(r1.2.1,a1,()))
 let k8:Option (ResD yi×MutD yh) :=
 bif(r1.1.1==12)then
 let r14:=ygV a1
 some ((),(r1.2.1,r14,()))
 else
 k7
 let k9:Option (ResD yi×MutD yh) :=
 bif(r1.1.1==10)then
 k5
 else
 k8
 let k10:Option (ResD yi×MutD yh) :=
 bif(r1.1.1==11)then
 k5
 else
 k8
 let k11:Option (ResD yi×MutD yh) :=
 bif(r1.1.1==10)then
 k9
 else
 k10
 let k12:Option (ResD yi×MutD yh) :=
 bif(r1.1.1==9)then
 k3
 else
 k11
 let k13:Option (ResD yi×MutD yh) :=
 bif(r1.1.1==8)then
 k1
 else
 k12
 let k14:Option (ResD yi×MutD yh) :=
 bif(r1.1.1==7)then
 bnd (yqC a1) fun r8 =>
 some ((),(r1.2.1,r8.2.1,()))
 else
 k13
 let k15:Option (ResD yi×MutD yh) :=
 bif(r1.1.1==4)then
 bnd (yf r1.2.1 a1.2.1.2) fun r6 =>
 bnd (ycM a1 r6.1.1) fun r7 =>
 some ((),(r6.2.1,r7.2.1,()))
 else
 k14
 let k16:Option (ResD yi×MutD yh) :=
 bif(r1.1.1==5)then
 bnd (yf r1.2.1 a1.2.1.2) fun r27 =>
 bnd (ycM a1 r27.1.1) fun r28 =>
 some ((),(r27.2.1,r28.2.1,()))
 else
 k14
 let k17:Option (ResD yi×MutD yh) :=
 bif(r1.1.1==6)then
 bnd (yf r1.2.1 a1.2.1.2) fun r48 =>
 bnd (ycM a1 r48.1.1) fun r49 =>
 some ((),(r48.2.1,r49.2.1,()))
 else
 k14
 let k18:Option (ResD yi×MutD yh) :=
 bif(r1.1.1==5)then
 k16
 else
 k17
 let k19:Option (ResD yi×MutD yh) :=
 bif(r1.1.1==4)then
 k15
 else
 k18
 bif(r1.1.1==0)then
 bif(r1.1.1==0)then
 let r2:=yr a1.2.1
 bnd (yf r1.2.1 r2) fun r3 =>
 bnd (yaq r3.2.1) fun r4 =>
 bnd (yff a1 r3.1.1 r4.1.1) fun r5 =>
 some ((),(r4.2.1,r5.2.1,()))
 else
 k19
 else
 bif(r1.1.1==1)then
 bif(r1.1.1==1)then
 let r69:=yr a1.2.1
 bnd (yf r1.2.1 r69) fun r70 =>
 bnd (yaq r70.2.1) fun r71 =>
 bnd (yff a1 r70.1.1 r71.1.1) fun r72 =>
 some ((),(r71.2.1,r72.2.1,()))
 else
 k19
 else
 bif(r1.1.1==2)then
 bif(r1.1.1==2)then
 let r136:=yr a1.2.1
 bnd (yf r1.2.1 r136) fun r137 =>
 bnd (yaq r137.2.1) fun r138 =>
 bnd (yff a1 r137.1.1 r138.1.1) fun r139 =>
 some ((),(r138.2.1,r139.2.1,()))
 else
 k19
 else
 bif(r1.1.1==3)then
 let r203:=yr a1.2.1
 bnd (yf r1.2.1 r203) fun r204 =>
 bnd (yaq r204.2.1) fun r205 =>
 bnd (yff a1 r204.1.1 r205.1.1) fun r206 =>
 some ((),(r205.2.1,r206.2.1,()))
 else
 k19
theorem y02 (x:InD yh):zju ⟨yJS,160,yTT⟩ f163.results.toList yJk yh yi x=ydx x.1 x.2.1:=by kernel_rfl
theorem yWz:ConOk prog 163 ⟨yh,yi,fun x=>ydx x.1 x.2.1⟩:=zjZ (yRn) func163 (by kernel_rfl) (by kernel_rfl) ntmps163.symm (by decide) (fun x r h=>(y02 x).trans h)
def ywk:Con:=⟨yh,yi,fun x=>ydx x.1 x.2.1⟩
theorem yH8:ConOk prog 163 ywk:=yWz
def yyV (a:dA) (z:Option (ResD yi×MutD yh)):Prop:= ∃(u':dU) (a':dA),z=some ((),(u',a',()))∧yb7 u'∧Turned a a'
def y3P (u:dU) (a:dA):Option (ResD yi×MutD yh) :=
 bnd (yf u (yr a.2.1)) fun r3=>bnd (yaq r3.2.1) fun r4=>bnd (yff a r3.1.1 r4.1.1) fun r5=>some ((),(r4.2.1,r5.2.1,()))
def y0m (u:dU) (a:dA):Option (ResD yi×MutD yh) :=
 bnd (yf u a.2.1.2) fun r6=>bnd (ycM a r6.1.1) fun r7=>some ((),(r6.2.1,r7.2.1,()))
def y20 (u:dU) (a:dA):Option (ResD yi×MutD yh) :=
 bnd (yaY u 3) fun r9=>bif r9.1.1 then(bif(a.2.2.2.1==(-1))then(bnd (yf r9.2.1 a.2.1.1) fun r10=>bnd (ylQ a r10.1.1) fun r11=>some ((),(r10.2.1,r11.2.1,())))else some ((),(r9.2.1,a,())))else some ((),(r9.2.1,a,()))
def y0n (u:dU) (a:dA):Option (ResD yi×MutD yh) :=
 bif leb 0 a.2.2.2.1 then(bif inb a.2.2.2.1 a.2.2.1.length then(bif(nth a.2.2.1 a.2.2.2.1 noMem).2.2.1 then(bnd (yjH a) fun r12=>some ((),(u,r12.2.1,())))else some ((),(u,a,())))else none)else some ((),(u,a,()))
def y21 (u:dU) (a:dA):Option (ResD yi×MutD yh) :=
 bif leb 0 a.2.2.2.1 then(bif inb a.2.2.2.1 a.2.2.1.length then(bif !(nth a.2.2.1 a.2.2.2.1 noMem).2.2.1 then(bif ltb a.2.2.2.2.1 a.2.1.2 then(bnd (ylR a) fun r13=>some ((),(u,r13.2.1,())))else some ((),(u,a,())))else some ((),(u,a,())))else none)else some ((),(u,a,()))
def yM8 (u:dU) (a:dA):Option (ResD yi×MutD yh) :=
 bif(a.2.2.2.1==(-1))then(bnd (yaY u 3) fun r15=>bif r15.1.1 then(bnd (yf r15.2.1 a.2.1.1) fun r16=>bif inb r16.1.1 a.2.2.1.length then(bnd (yf r16.2.1 a.2.1.2) fun r17 =>
 bif inb r16.1.1 a.2.2.1.length then some ((),(r17.2.1,setMem a r16.1.1 (spoil (nth a.2.2.1 r16.1.1 noMem) (dataAt r17.1.1)),()))else none)else none)else some ((),(r15.2.1,a,())))else some ((),(u,a,()))
theorem yIT {u:dU} {a:dA} (h:coreOk a) (hk:Keep a) (hu:yb7 u):yyV a (y3P u a):=by
 have hg:=yg.1 h.1;have hd:=yzc h.2.2.1 h.1;obtain⟨b,u1,e1,q1,d1⟩:=ycv u (yr a.2.1) hu;obtain⟨x,u2,e2,q2,d2⟩:=y5P u1 d1;have hx:isW x=true:=by rw[ycf]at q2; exact q2
 have hbl:0<yr a.2.1:=by
  rw[yIe h.1];exact Int.mul_pos (by omega) (by omega)
 have hb:blkOk a.2.1 b=true:=by
  have:=q1.2.1 hbl;unfold blkOk;rw[zku q1.1,zku (show b≤yr a.2.1-1 by omega)]; rfl
 unfold y3P;rw[e1,zka,e2,zka,y1Q a b x (by unfold yqE; rw[yHv.2 ⟨h,hk⟩,hb]; exact decide_eq_true (show a.2.2.2.2.2.2.2.2.1.length≤1000 by omega)),zka];exact⟨_,_,rfl,d2,.put b x hb hx⟩
theorem yIS {u:dU} {a:dA} (h:coreOk a) (hu:yb7 u):yyV a (y0m u a):=by
 have hd:=yzc h.2.2.1 h.1;obtain⟨s,u1,e1,q1,d1⟩:=ycv u a.2.1.2 hu;unfold y0m;rw[e1,zka,yGi a s (decide_eq_true (show a.2.2.2.2.2.2.2.2.1.length≤1000 by omega)),zka];exact⟨_,_,rfl,d1,.flush s⟩
theorem y5y {u:dU} {a:dA} (h:coreOk a) (hu:yb7 u):yyV a (bnd (yqC a) fun r8=>some ((),(u,r8.2.1,()))):=by
 have hd:=yzc h.2.2.1 h.1;rw[y1O a (decide_eq_true (show a.2.2.2.2.2.2.2.2.1.length≤1000 by omega)),zka];exact⟨_,_,rfl,hu,.all⟩
theorem y4P {u:dU} {a:dA} (h:coreOk a) (hk:Keep a) (hu:yb7 u):yyV a (y20 u a):=by
 have hg:=yg.1 h.1;have hl:=hk.1.2;obtain⟨r,u1,e1,d1⟩:=y3u u 3 hu;unfold y20;rw[e1,zka]
 cases r
 ·exact⟨_,_,rfl,d1,.same⟩
 ·cases h1:(a.2.2.2.1==(-1))
  ·exact⟨_,_,rfl,d1,.same⟩
  ·obtain⟨m,u2,e2,q2,d2⟩:=ycv u1 a.2.1.1 d1
   have hm:inb m a.2.2.1.length=true:=zjA.2 ⟨q2.1,by have:=q2.2.1 (by omega); omega⟩;simp only[cond_true];rw[e2,zka,yWY a m hm,zka];exact⟨_,_,rfl,d2,.fail m (beq_iff_eq.1 h1) hm⟩
theorem y4h {u:dU} {a:dA} (h:coreOk a) (hk:Keep a) (hu:yb7 u):yyV a (y0n u a):=by
 have hl:=hk.1.2;have hc:=h.2.2.2.1;unfold y0n
 cases h0:leb 0 a.2.2.2.1
 ·exact⟨_,_,rfl,hu,.same⟩
 ·have hi:inb a.2.2.2.1 a.2.2.1.length=true:=zjA.2 ⟨zjB.1 h0,by omega⟩
  rw[hi]
  cases hf:(nth a.2.2.1 a.2.2.2.1 noMem).2.2.1
  ·exact⟨_,_,rfl,hu,.same⟩
  ·simp only[cond_true]
   rw[yTa a (by unfold yjJ; rw[h.1,hi]; rfl),zka];exact⟨_,_,rfl,hu,.spare hi hf⟩
theorem y0o {u:dU} {a:dA} (h:coreOk a) (hk:Keep a) (hu:yb7 u):yyV a (y21 u a):=by
 have hl:=hk.1.2;have hc:=h.2.2.2.1;unfold y21
 cases h0:leb 0 a.2.2.2.1
 ·exact⟨_,_,rfl,hu,.same⟩
 ·have h0':=zjB.1 h0
  have hi:inb a.2.2.2.1 a.2.2.1.length=true:=zjA.2 ⟨h0',by omega⟩;rw[hi]
  cases hf:(nth a.2.2.1 a.2.2.2.1 noMem).2.2.1
  ·cases hb:ltb a.2.2.2.2.1 a.2.1.2
   ·exact⟨_,_,rfl,hu,.same⟩
   ·simp only[cond_true,Bool.not_false]
    rw[yWZ a (by unfold ylU; rw[h.1,hi,zjA.2 (show 0≤a.2.2.2.1∧a.2.2.2.1<a.2.1.1.toNat by omega)]; rfl),zka];exact⟨_,_,rfl,hu,.step hi hf (zjE.1 hb)⟩
  ·exact⟨_,_,rfl,hu,.same⟩
theorem y4i {u:dU} {a:dA} (h:coreOk a) (hk:Keep a) (hu:yb7 u):yyV a (yM8 u a):=by
 have hg:=yg.1 h.1;have hl:=hk.1.2;unfold yM8
 cases hlo:(a.2.2.2.1==(-1))
 ·exact⟨_,_,rfl,hu,.same⟩
 ·obtain⟨r,u1,e1,d1⟩:=y3u u 3 hu
  simp only[cond_true];rw[e1,zka]
  cases r
  ·exact⟨_,_,rfl,d1,.same⟩
  ·obtain⟨m,u2,e2,q2,d2⟩:=ycv u1 a.2.1.1 d1
   have hm:inb m a.2.2.1.length=true:=zjA.2 ⟨q2.1,by have:=q2.2.1 (by omega); omega⟩;obtain⟨s,u3,e3,q3,d3⟩:=ycv u2 a.2.1.2 d2;simp only[cond_true];rw[e2,zka];simp only[hm,cond_true];rw[e3,zka];exact⟨_,_,rfl,d3,.spoil m s (beq_iff_eq.1 hlo) hm q3.1 (q3.2.1 (by omega))⟩
theorem y3v (u:dU) (a:dA) (hu:yb7 u) (h:coreOk a) (hk:Keep a):yyV a (ydx u a):=by
 obtain⟨r,u1,e1,q1,d1⟩:=ycv u 14 hu;have hr:=q1.2.1 (by omega);have h0:=q1.1;unfold ydx;rw[e1,zka];have hc:(r=0∨r=1∨r=2∨r=3)∨(r=4∨r=5∨r=6)∨r=7∨r=8∨r=9∨(r=10∨r=11)∨r=12∨r=13:=by omega
 rcases hc with(rfl | rfl | rfl | rfl) | (rfl | rfl | rfl) | rfl | rfl | rfl | (rfl | rfl) | rfl | rfl
 ·exact yIT h hk d1
 ·exact yIT h hk d1
 ·exact yIT h hk d1
 ·exact yIT h hk d1
 ·exact yIS h d1
 ·exact yIS h d1
 ·exact yIS h d1
 ·exact y5y h d1
 ·exact y4P h hk d1
 ·exact y4h h hk d1
 ·exact y0o h hk d1
 ·exact y0o h hk d1
 ·refine⟨u1,checkA a,?_,d1,.check⟩
  rw[← yJ4]; rfl
 ·have:=y4i h hk d1
  unfold yM8 at this;simp only[← ygY]at this;exact this
end
section
def ym7:Code:=(f124.body).getD .skip
def ys9:Env:=zj0 TT [(72,yay),(115,yFI),(116,yHI),(163,ywk)] []
theorem yRi:FrOk prog ⟨ys9,24,fun _=>none⟩ ym7:=zj4 yc yd ⟨ybQ,yZq,y1J,yH8,trivial⟩
def yET:Nat→Option Seg:=fun _=>none
def ycs:Shape:=⟨[(0,false,[.ptr 1000000000 0]),(4,false,[.ptr 0 0]),(5,false,[.ptr 4480 0]),(6,false,[.int .i64])],[(0,[.int .i64,.int .i64,.int .i64,.nil,.int .i64,.int .i64,.int .i64,.int .i64,.int .i64,.nil,.int .i64,.bool,.bool]),(4480,[.int .i64,.int .i64,.int .i64,.at 800000000,.int .i64,.int .i64,.int .i64,.int .i64,.int .i64,.at 800000001,.int .i64,.bool,.bool]),(1000000000,[.fz tY,.int .i64,.int .i64])],[(800000000,tM,(.pr (.ow .fz) (.pr (.ow (.pr .fz .fz)) (.pr .fz (.ow .fz))))),(800000001,tW,(.pr .fz .fz))]⟩
def yhp:Shape:=⟨[(0,false,[.ptr 1000000000 0]),(4,false,[.ptr 0 0]),(5,false,[.ptr 4480 0]),(6,false,[.int .i64])],[(0,[.int .i64,.int .i64,.int .i64,.nil,.int .i64,.int .i64,.int .i64,.int .i64,.int .i64,.nil,.int .i64,.bool,.bool]),(4480,[.int .i64,.int .i64,.int .i64,.at 800000000,.int .i64,.int .i64,.int .i64,.int .i64,.int .i64,.at 800000001,.int .i64,.bool,.bool]),(1000000000,[.fz tY,.int .i64,.int .i64])],[(800000000,tM,(.pr (.ow .fz) (.pr (.ow (.pr .fz .fz)) (.pr .fz (.ow .fz))))),(800000001,tW,(.pr .fz .fz))]⟩
def yhe:Shape:=⟨[(4,false,[.ptr 0 0]),(5,false,[.ptr 4480 0])],[(0,[.int .i64,.int .i64,.int .i64,.nil,.int .i64,.int .i64,.int .i64,.int .i64,.int .i64,.nil,.int .i64,.bool,.bool]),(4480,[.int .i64,.int .i64,.int .i64,.at 800000000,.int .i64,.int .i64,.int .i64,.int .i64,.int .i64,.at 800000001,.int .i64,.bool,.bool]),(1000000000,[.fz tY,.int .i64,.int .i64])],[(800000000,tM,(.pr (.ow .fz) (.pr (.ow (.pr .fz .fz)) (.pr .fz (.ow .fz))))),(800000001,tW,(.pr .fz .fz))]⟩
def yml:Shape:=⟨[],[],[]⟩
abbrev ysq (v0:Int) (v1 v2:dA) (v3:dU):(ycs).X:=((((),()),((),()),((),()),(v0,()),()),((v1.1,v1.2.1.1,v1.2.1.2,(),v1.2.2.2.1,v1.2.2.2.2.1,v1.2.2.2.2.2.1,v1.2.2.2.2.2.2.1,v1.2.2.2.2.2.2.2.1,(),v1.2.2.2.2.2.2.2.2.2.1,v1.2.2.2.2.2.2.2.2.2.2.1,v1.2.2.2.2.2.2.2.2.2.2.2,()),(v2.1,v2.2.1.1,v2.2.1.2,(),v2.2.2.2.1,v2.2.2.2.2.1,v2.2.2.2.2.2.1,v2.2.2.2.2.2.2.1,v2.2.2.2.2.2.2.2.1,(),v2.2.2.2.2.2.2.2.2.2.1,v2.2.2.2.2.2.2.2.2.2.2.1,v2.2.2.2.2.2.2.2.2.2.2.2,()),(v3.1,v3.2.1,v3.2.2,()),()),(v2.2.2.1,v2.2.2.2.2.2.2.2.2.1,()))
abbrev yOQ (v0:Int) (v1 v2:dA) (v3:dU):(yhp).X:=((((),()),((),()),((),()),(v0,()),()),((v1.1,v1.2.1.1,v1.2.1.2,(),v1.2.2.2.1,v1.2.2.2.2.1,v1.2.2.2.2.2.1,v1.2.2.2.2.2.2.1,v1.2.2.2.2.2.2.2.1,(),v1.2.2.2.2.2.2.2.2.2.1,v1.2.2.2.2.2.2.2.2.2.2.1,v1.2.2.2.2.2.2.2.2.2.2.2,()),(v2.1,v2.2.1.1,v2.2.1.2,(),v2.2.2.2.1,v2.2.2.2.2.1,v2.2.2.2.2.2.1,v2.2.2.2.2.2.2.1,v2.2.2.2.2.2.2.2.1,(),v2.2.2.2.2.2.2.2.2.2.1,v2.2.2.2.2.2.2.2.2.2.2.1,v2.2.2.2.2.2.2.2.2.2.2.2,()),(v3.1,v3.2.1,v3.2.2,()),()),(v2.2.2.1,v2.2.2.2.2.2.2.2.2.1,()))
abbrev yOH (v0 v1:dA) (v2:dU):(yhe).X:=((((),()),((),()),()),((v0.1,v0.2.1.1,v0.2.1.2,(),v0.2.2.2.1,v0.2.2.2.2.1,v0.2.2.2.2.2.1,v0.2.2.2.2.2.2.1,v0.2.2.2.2.2.2.2.1,(),v0.2.2.2.2.2.2.2.2.2.1,v0.2.2.2.2.2.2.2.2.2.2.1,v0.2.2.2.2.2.2.2.2.2.2.2,()),(v1.1,v1.2.1.1,v1.2.1.2,(),v1.2.2.2.1,v1.2.2.2.2.1,v1.2.2.2.2.2.1,v1.2.2.2.2.2.2.1,v1.2.2.2.2.2.2.2.1,(),v1.2.2.2.2.2.2.2.2.2.1,v1.2.2.2.2.2.2.2.2.2.2.1,v1.2.2.2.2.2.2.2.2.2.2.2,()),(v2.1,v2.2.1,v2.2.2,()),()),(v1.2.2.1,v1.2.2.2.2.2.2.2.2.1,()))
def ysJ (v0 v1 v2 v3 v4 v5 v6 v7 v8 v9:Int) (v10 v11:Bool) (v12 v13 v14 v15 v16 v17 v18 v19 v20:Int) (v21 v22:Bool) (v23:List Int) (v24 v25:Int) (v26:List dM) (v27:List dW):Option ((ycs).X ⊕ ((yhe).X ⊕ (yml).X)) :=
 bif(ltb 0 v0)then
 bnd (ydx (v23,v24,v25) (v12,(v13,v14),v26,v15,v16,v17,v18,v19,v27,v20,v21,v22)) fun r6 =>
 some (.inl ((((),()),((),()),((),()),((IntKind.i64.wrap (v0-1)),()),()),((v1,v2,v3,(),v4,v5,v6,v7,v8,(),v9,v10,v11,()),(r6.2.2.1.1,r6.2.2.1.2.1.1,r6.2.2.1.2.1.2,(),r6.2.2.1.2.2.2.1,r6.2.2.1.2.2.2.2.1,r6.2.2.1.2.2.2.2.2.1,r6.2.2.1.2.2.2.2.2.2.1,r6.2.2.1.2.2.2.2.2.2.2.1,(),r6.2.2.1.2.2.2.2.2.2.2.2.2.1,r6.2.2.1.2.2.2.2.2.2.2.2.2.2.1,r6.2.2.1.2.2.2.2.2.2.2.2.2.2.2,()),(r6.2.1.1,r6.2.1.2.1,r6.2.1.2.2,()),()),(r6.2.2.1.2.2.1,r6.2.2.1.2.2.2.2.2.2.2.2.1,())))
 else
 some (.inr (.inl ((((),()),((),()),()),((v1,v2,v3,(),v4,v5,v6,v7,v8,(),v9,v10,v11,()),(v12,v13,v14,(),v15,v16,v17,v18,v19,(),v20,v21,v22,()),(v23,v24,v25,()),()),(v26,v27,()))))
def ycV (x:(ycs).X):=ysJ x.1.2.2.2.1.1 x.2.1.1.1 x.2.1.1.2.1 x.2.1.1.2.2.1 x.2.1.1.2.2.2.2.1 x.2.1.1.2.2.2.2.2.1 x.2.1.1.2.2.2.2.2.2.1 x.2.1.1.2.2.2.2.2.2.2.1 x.2.1.1.2.2.2.2.2.2.2.2.1 x.2.1.1.2.2.2.2.2.2.2.2.2.2.1 x.2.1.1.2.2.2.2.2.2.2.2.2.2.2.1 x.2.1.1.2.2.2.2.2.2.2.2.2.2.2.2.1 x.2.1.2.1.1 x.2.1.2.1.2.1 x.2.1.2.1.2.2.1 x.2.1.2.1.2.2.2.2.1 x.2.1.2.1.2.2.2.2.2.1 x.2.1.2.1.2.2.2.2.2.2.1 x.2.1.2.1.2.2.2.2.2.2.2.1 x.2.1.2.1.2.2.2.2.2.2.2.2.1 x.2.1.2.1.2.2.2.2.2.2.2.2.2.2.1 x.2.1.2.1.2.2.2.2.2.2.2.2.2.2.2.1 x.2.1.2.1.2.2.2.2.2.2.2.2.2.2.2.2.1 x.2.1.2.2.1.1 x.2.1.2.2.1.2.1 x.2.1.2.2.1.2.2.1 x.2.2.1 x.2.2.2.1
def yBp (x:(yhp).X):(ycs).X:=((((),()),((),()),((),()),(x.1.2.2.2.1.1,()),()),((x.2.1.1.1,x.2.1.1.2.1,x.2.1.1.2.2.1,(),x.2.1.1.2.2.2.2.1,x.2.1.1.2.2.2.2.2.1,x.2.1.1.2.2.2.2.2.2.1,x.2.1.1.2.2.2.2.2.2.2.1,x.2.1.1.2.2.2.2.2.2.2.2.1,(),x.2.1.1.2.2.2.2.2.2.2.2.2.2.1,x.2.1.1.2.2.2.2.2.2.2.2.2.2.2.1,x.2.1.1.2.2.2.2.2.2.2.2.2.2.2.2.1,()),(x.2.1.2.1.1,x.2.1.2.1.2.1,x.2.1.2.1.2.2.1,(),x.2.1.2.1.2.2.2.2.1,x.2.1.2.1.2.2.2.2.2.1,x.2.1.2.1.2.2.2.2.2.2.1,x.2.1.2.1.2.2.2.2.2.2.2.1,x.2.1.2.1.2.2.2.2.2.2.2.2.1,(),x.2.1.2.1.2.2.2.2.2.2.2.2.2.2.1,x.2.1.2.1.2.2.2.2.2.2.2.2.2.2.2.1,x.2.1.2.1.2.2.2.2.2.2.2.2.2.2.2.2.1,()),(x.2.1.2.2.1.1,x.2.1.2.2.1.2.1,x.2.1.2.2.1.2.2.1,()),()),(x.2.2.1,x.2.2.2.1,()))
def yCV:Code:=(zef ym7 64 116).getD .skip
theorem yQr:zef ym7 64 29=some (.block 0 (.loop yCV)):=by kernel_rfl
theorem yTl (x:(ycs).X):zg0 ⟨ys9,24,yET⟩ 0 yCV 116 ycs yhe yml x=ycV x:=by kernel_rfl
def yBA (x:(yhp).X):Nat:=18446744073709551616
def yt8 (x:(yhp).X):Option ((yhe).X ⊕ (yml).X):=zz ycV (yBA x) (yBp x)
def yBQ:Seg:=⟨yhp,yhe,yml,yt8⟩
def yEU:Nat→Option Seg:=fun q=>bif Nat.beq q 29 then some yBQ else yET q
theorem yRj:FrOk prog ⟨ys9,24,yEU⟩ ym7:=(yRi).loop (sg:=yBQ) ycs yBp (by decide) yQr ycV yBA (by decide) (fun _=>rfl) (fun x r _ h=>h) yTl
abbrev yns:List Par:= [.pt tU .fz,.rd tI]
abbrev ytG:List OT:= [⟨false,tA,(.pr .fz (.pr (.pr .fz .fz) (.pr (.ow (.pr (.ow .fz) (.pr (.ow (.pr .fz .fz)) (.pr .fz (.ow .fz))))) (.pr .fz (.pr .fz (.pr .fz (.pr .fz (.pr .fz (.pr (.ow (.pr .fz .fz)) (.pr .fz (.pr .fz .fz)))))))))))⟩]
def yfJ (a0:dU) (a1:Int):Option (ResD ytG×MutD yns) :=
 bnd (yf a0 2) fun r1 =>
 bnd (ygX r1.2.1) fun r2 =>
 let r3:=ynL (IntKind.i64.wrap (1+r1.1.1)) r2.1.1
 bnd (yf r2.2.1 (IntKind.i64.wrap (a1+1))) fun r4 =>
 zjW (yt8 ((((),()),((),()),((),()),(r4.1.1,()),()),((0,0,0,(),0,0,0,0,0,(),0,false,false,()),(r3.1,r3.2.1.1,r3.2.1.2,(),r3.2.2.2.1,r3.2.2.2.2.1,r3.2.2.2.2.2.1,r3.2.2.2.2.2.2.1,r3.2.2.2.2.2.2.2.1,(),r3.2.2.2.2.2.2.2.2.2.1,r3.2.2.2.2.2.2.2.2.2.2.1,r3.2.2.2.2.2.2.2.2.2.2.2,()),(r4.2.1.1,r4.2.1.2.1,r4.2.1.2.2,()),()),(r3.2.2.1,r3.2.2.2.2.2.2.2.2.1,()))) (fun y6 =>
 some (((y6.2.1.2.1.1,(y6.2.1.2.1.2.1,y6.2.1.2.1.2.2.1),y6.2.2.1,y6.2.1.2.1.2.2.2.2.1,y6.2.1.2.1.2.2.2.2.2.1,y6.2.1.2.1.2.2.2.2.2.2.1,y6.2.1.2.1.2.2.2.2.2.2.2.1,y6.2.1.2.1.2.2.2.2.2.2.2.2.1,y6.2.2.2.1,y6.2.1.2.1.2.2.2.2.2.2.2.2.2.2.1,y6.2.1.2.1.2.2.2.2.2.2.2.2.2.2.2.1,y6.2.1.2.1.2.2.2.2.2.2.2.2.2.2.2.2.1),()),((y6.2.1.2.2.1.1,y6.2.1.2.2.1.2.1,y6.2.1.2.2.1.2.2.1),()))) (fun y6 =>
 none)
theorem y0Z (x:InD yns):zju ⟨ys9,24,yEU⟩ f124.results.toList ym7 yns ytG x=yfJ x.1 x.2.1:=by kernel_rfl
theorem yWw:ConOk prog 124 ⟨yns,ytG,fun x=>yfJ x.1 x.2.1⟩:=zjZ (yRj) func124 (by kernel_rfl) (by kernel_rfl) ntmps124.symm (by decide) (fun x r h=>(y0Z x).trans h)
def yFS:Con:=⟨yns,ytG,fun x=>yfJ x.1 x.2.1⟩
theorem yZA:ConOk prog 124 yFS:=yWw
theorem yZ4 {P:Int→dA→Prop} {K:Int} (hP: ∀k a,P k a→coreOk a∧Keep a) (hT: ∀k a b,P k a→Turned a b→k+16≤K→P (k+16) b): ∀(n:Nat) (k:Int) (a:dA) (u:dU) (fuel:Nat),n<fuel→n≤1000→yb7 u→P k a→k+16*n≤K →
  ∃(a':dA) (u':dU),zz ycV fuel (ysq n yae a u)=some (.inl (yOH yae a' u'))∧yb7 u'∧P (k+16*n) a'
 | 0,k,a,u,fuel+1,_,_,hu,h,_=>⟨a,u,by simp only[zz,ycV,ysq,ysJ]; rfl,hu,by rw[show k+16*((0:Nat):Int)=k by omega]; exact h⟩
 | n+1,k,a,u,fuel+1,hf,hn,hu,h,hk=>by
  obtain⟨hc,hkp⟩:=hP k a h;obtain⟨u1,a1,e1,d1,h1⟩:=y3v u a hu hc hkp;obtain⟨a',u',e2,d2,h2⟩:=yZ4 hP hT n (k+16) a1 u1 fuel (by omega) (by omega) d1 (hT k a a1 h h1 (by omega)) (by omega);refine⟨a',u',?_,d2,by rw[show k+16*((n+1:Nat):Int)=k+16+16*(n:Int)by omega]; exact h2⟩;rw[← e2,zz];simp only[ycV,ysq,ysJ,zj2 (show(0:Int)<((n+1:Nat):Int)by omega),cond_true,zkp,e1,zka,show((n+1:Nat):Int)-1=(n:Int)by omega,wr (show -9223372036854775808≤(n:Int)by omega) (by omega)]
theorem y3X {P:Int→dA→Prop} {K:Int} (hP: ∀k a,P k a→coreOk a∧Keep a) (hT: ∀k a b,P k a→Turned a b→k+16≤K→P (k+16) b) (h0P: ∀id g,n_spec_GeoOk g=true→1≤id→id≤60000→P 0 (yeg id g))
  (u:dU) (most:Int) (h:yb7 u) (h0:0≤most) (h1:most≤1000) (hm:16*most≤K): ∃(a:dA) (u':dU) (k:Int),yfJ u most=some ((a,()),(u',()))∧P k a∧k≤16*most∧yb7 u':=by
 obtain⟨r1,u1,e1,q1,d1⟩:=ycv u 2 h;obtain⟨g,u2,e2,q2,d2⟩:=y5a u1 d1;obtain⟨r3,u3,e3,q3,d3⟩:=ycv u2 (most+1) d2;have:=q1.1; have:=q1.2.1 (by omega); have:=q3.1; have:=q3.2.1 (by omega);have hn:=h0P (1+r1) g q2 (by omega) (by omega);obtain⟨a',u',e4,d4,h4⟩:=yZ4 hP hT r3.toNat 0 (yeg (1+r1) g) u3 18446744073709551616 (by omega) (by omega) d3 hn (by omega);rw[show((r3.toNat:Nat):Int)=r3 by omega]at e4;unfold yfJ;simp only[e1,e2,zka,wr (show -9223372036854775808≤most+1 by omega) (by omega),e3,wr (show -9223372036854775808≤1+r1 by omega) (by omega),ynL];refine⟨a',u',_,?_,h4,by omega,d4⟩;exact(congrArg (fun z=>zjW z _ _) (show yt8 (yOQ r3 yae (yeg (1+r1) g) u3)=_ from e4)).trans rfl
end
section
def yip:Code:=(f93.body).getD .skip
def yoD:Env:=zj0 TT [(72,yay),(80,yru),(124,yFS),(163,ywk)] []
theorem yL7:FrOk prog ⟨yoD,29,fun _=>none⟩ yip:=zj4 yc yd ⟨ybQ,yAf,yZA,yH8,trivial⟩
def yAG:Nat→Option Seg:=fun _=>none
def ybh:Shape:=⟨[(0,false,[.ptr 1000000000 0]),(4,false,[.ptr 0 0]),(5,false,[.ptr 4288 0]),(6,false,[.int .i64])],[(0,[.int .i64,.int .i64,.int .i64,.nil,.int .i64,.int .i64,.int .i64,.int .i64,.int .i64,.nil,.int .i64,.bool,.bool]),(4288,[.int .i64,.int .i64,.int .i64,.at 800000000,.int .i64,.int .i64,.int .i64,.int .i64,.int .i64,.at 800000001,.int .i64,.bool,.bool]),(1000000000,[.fz tY,.int .i64,.int .i64])],[(800000000,tM,(.pr (.ow .fz) (.pr (.ow (.pr .fz .fz)) (.pr .fz (.ow .fz))))),(800000001,tW,(.pr .fz .fz))]⟩
def ye6:Shape:=⟨[(0,false,[.ptr 1000000000 0]),(4,false,[.ptr 0 0]),(5,false,[.ptr 4288 0]),(6,false,[.int .i64])],[(0,[.int .i64,.int .i64,.int .i64,.nil,.int .i64,.int .i64,.int .i64,.int .i64,.int .i64,.nil,.int .i64,.bool,.bool]),(4288,[.int .i64,.int .i64,.int .i64,.at 800000000,.int .i64,.int .i64,.int .i64,.int .i64,.int .i64,.at 800000001,.int .i64,.bool,.bool]),(1000000000,[.fz tY,.int .i64,.int .i64])],[(800000000,tM,(.pr (.ow .fz) (.pr (.ow (.pr .fz .fz)) (.pr .fz (.ow .fz))))),(800000001,tW,(.pr .fz .fz))]⟩
def yeY:Shape:=⟨[(4,false,[.ptr 0 0]),(5,false,[.ptr 4288 0])],[(0,[.int .i64,.int .i64,.int .i64,.nil,.int .i64,.int .i64,.int .i64,.int .i64,.int .i64,.nil,.int .i64,.bool,.bool]),(4288,[.int .i64,.int .i64,.int .i64,.at 800000000,.int .i64,.int .i64,.int .i64,.int .i64,.int .i64,.at 800000001,.int .i64,.bool,.bool]),(1000000000,[.fz tY,.int .i64,.int .i64])],[(800000000,tM,(.pr (.ow .fz) (.pr (.ow (.pr .fz .fz)) (.pr .fz (.ow .fz))))),(800000001,tW,(.pr .fz .fz))]⟩
def yjo:Shape:=⟨[],[],[]⟩
abbrev ybR (v0:Int) (v1 v2:dA) (v3:dU):(ybh).X:=((((),()),((),()),((),()),(v0,()),()),((v1.1,v1.2.1.1,v1.2.1.2,(),v1.2.2.2.1,v1.2.2.2.2.1,v1.2.2.2.2.2.1,v1.2.2.2.2.2.2.1,v1.2.2.2.2.2.2.2.1,(),v1.2.2.2.2.2.2.2.2.2.1,v1.2.2.2.2.2.2.2.2.2.2.1,v1.2.2.2.2.2.2.2.2.2.2.2,()),(v2.1,v2.2.1.1,v2.2.1.2,(),v2.2.2.2.1,v2.2.2.2.2.1,v2.2.2.2.2.2.1,v2.2.2.2.2.2.2.1,v2.2.2.2.2.2.2.2.1,(),v2.2.2.2.2.2.2.2.2.2.1,v2.2.2.2.2.2.2.2.2.2.2.1,v2.2.2.2.2.2.2.2.2.2.2.2,()),(v3.1,v3.2.1,v3.2.2,()),()),(v2.2.2.1,v2.2.2.2.2.2.2.2.2.1,()))
abbrev yKy (v0:Int) (v1 v2:dA) (v3:dU):(ye6).X:=((((),()),((),()),((),()),(v0,()),()),((v1.1,v1.2.1.1,v1.2.1.2,(),v1.2.2.2.1,v1.2.2.2.2.1,v1.2.2.2.2.2.1,v1.2.2.2.2.2.2.1,v1.2.2.2.2.2.2.2.1,(),v1.2.2.2.2.2.2.2.2.2.1,v1.2.2.2.2.2.2.2.2.2.2.1,v1.2.2.2.2.2.2.2.2.2.2.2,()),(v2.1,v2.2.1.1,v2.2.1.2,(),v2.2.2.2.1,v2.2.2.2.2.1,v2.2.2.2.2.2.1,v2.2.2.2.2.2.2.1,v2.2.2.2.2.2.2.2.1,(),v2.2.2.2.2.2.2.2.2.2.1,v2.2.2.2.2.2.2.2.2.2.2.1,v2.2.2.2.2.2.2.2.2.2.2.2,()),(v3.1,v3.2.1,v3.2.2,()),()),(v2.2.2.1,v2.2.2.2.2.2.2.2.2.1,()))
abbrev yKq (v0 v1:dA) (v2:dU):(yeY).X:=((((),()),((),()),()),((v0.1,v0.2.1.1,v0.2.1.2,(),v0.2.2.2.1,v0.2.2.2.2.1,v0.2.2.2.2.2.1,v0.2.2.2.2.2.2.1,v0.2.2.2.2.2.2.2.1,(),v0.2.2.2.2.2.2.2.2.2.1,v0.2.2.2.2.2.2.2.2.2.2.1,v0.2.2.2.2.2.2.2.2.2.2.2,()),(v1.1,v1.2.1.1,v1.2.1.2,(),v1.2.2.2.1,v1.2.2.2.2.1,v1.2.2.2.2.2.1,v1.2.2.2.2.2.2.1,v1.2.2.2.2.2.2.2.1,(),v1.2.2.2.2.2.2.2.2.2.1,v1.2.2.2.2.2.2.2.2.2.2.1,v1.2.2.2.2.2.2.2.2.2.2.2,()),(v2.1,v2.2.1,v2.2.2,()),()),(v1.2.2.1,v1.2.2.2.2.2.2.2.2.1,()))
def yeh (v0 v1 v2 v3 v4 v5 v6 v7 v8 v9:Int) (v10 v11:Bool) (v12 v13 v14 v15 v16 v17 v18 v19 v20:Int) (v21 v22:Bool) (v23:List Int) (v24 v25:Int) (v26:List dM) (v27:List dW):Option ((ybh).X ⊕ ((yeY).X ⊕ (yjo).X)) :=
 bif(ltb 0 v0)then
 bif(!v21)then
 bnd (ydx (v23,v24,v25) (v12,(v13,v14),v26,v15,v16,v17,v18,v19,v27,v20,v21,v22)) fun r5 =>
 some (.inl ((((),()),((),()),((),()),((IntKind.i64.wrap (v0-1)),()),()),((v1,v2,v3,(),v4,v5,v6,v7,v8,(),v9,v10,v11,()),(r5.2.2.1.1,r5.2.2.1.2.1.1,r5.2.2.1.2.1.2,(),r5.2.2.1.2.2.2.1,r5.2.2.1.2.2.2.2.1,r5.2.2.1.2.2.2.2.2.1,r5.2.2.1.2.2.2.2.2.2.1,r5.2.2.1.2.2.2.2.2.2.2.1,(),r5.2.2.1.2.2.2.2.2.2.2.2.2.1,r5.2.2.1.2.2.2.2.2.2.2.2.2.2.1,r5.2.2.1.2.2.2.2.2.2.2.2.2.2.2,()),(r5.2.1.1,r5.2.1.2.1,r5.2.1.2.2,()),()),(r5.2.2.1.2.2.1,r5.2.2.1.2.2.2.2.2.2.2.2.1,())))
 else
 some (.inr (.inl ((((),()),((),()),()),((v1,v2,v3,(),v4,v5,v6,v7,v8,(),v9,v10,v11,()),(v12,v13,v14,(),v15,v16,v17,v18,v19,(),v20,v21,v22,()),(v23,v24,v25,()),()),(v26,v27,()))))
 else
 some (.inr (.inl ((((),()),((),()),()),((v1,v2,v3,(),v4,v5,v6,v7,v8,(),v9,v10,v11,()),(v12,v13,v14,(),v15,v16,v17,v18,v19,(),v20,v21,v22,()),(v23,v24,v25,()),()),(v26,v27,()))))
def yS (x:(ybh).X):=yeh x.1.2.2.2.1.1 x.2.1.1.1 x.2.1.1.2.1 x.2.1.1.2.2.1 x.2.1.1.2.2.2.2.1 x.2.1.1.2.2.2.2.2.1 x.2.1.1.2.2.2.2.2.2.1 x.2.1.1.2.2.2.2.2.2.2.1 x.2.1.1.2.2.2.2.2.2.2.2.1 x.2.1.1.2.2.2.2.2.2.2.2.2.2.1 x.2.1.1.2.2.2.2.2.2.2.2.2.2.2.1 x.2.1.1.2.2.2.2.2.2.2.2.2.2.2.2.1 x.2.1.2.1.1 x.2.1.2.1.2.1 x.2.1.2.1.2.2.1 x.2.1.2.1.2.2.2.2.1 x.2.1.2.1.2.2.2.2.2.1 x.2.1.2.1.2.2.2.2.2.2.1 x.2.1.2.1.2.2.2.2.2.2.2.1 x.2.1.2.1.2.2.2.2.2.2.2.2.1 x.2.1.2.1.2.2.2.2.2.2.2.2.2.2.1 x.2.1.2.1.2.2.2.2.2.2.2.2.2.2.2.1 x.2.1.2.1.2.2.2.2.2.2.2.2.2.2.2.2.1 x.2.1.2.2.1.1 x.2.1.2.2.1.2.1 x.2.1.2.2.1.2.2.1 x.2.2.1 x.2.2.2.1
def yxA (x:(ye6).X):(ybh).X:=((((),()),((),()),((),()),(x.1.2.2.2.1.1,()),()),((x.2.1.1.1,x.2.1.1.2.1,x.2.1.1.2.2.1,(),x.2.1.1.2.2.2.2.1,x.2.1.1.2.2.2.2.2.1,x.2.1.1.2.2.2.2.2.2.1,x.2.1.1.2.2.2.2.2.2.2.1,x.2.1.1.2.2.2.2.2.2.2.2.1,(),x.2.1.1.2.2.2.2.2.2.2.2.2.2.1,x.2.1.1.2.2.2.2.2.2.2.2.2.2.2.1,x.2.1.1.2.2.2.2.2.2.2.2.2.2.2.2.1,()),(x.2.1.2.1.1,x.2.1.2.1.2.1,x.2.1.2.1.2.2.1,(),x.2.1.2.1.2.2.2.2.1,x.2.1.2.1.2.2.2.2.2.1,x.2.1.2.1.2.2.2.2.2.2.1,x.2.1.2.1.2.2.2.2.2.2.2.1,x.2.1.2.1.2.2.2.2.2.2.2.2.1,(),x.2.1.2.1.2.2.2.2.2.2.2.2.2.2.1,x.2.1.2.1.2.2.2.2.2.2.2.2.2.2.2.1,x.2.1.2.1.2.2.2.2.2.2.2.2.2.2.2.2.1,()),(x.2.1.2.2.1.1,x.2.1.2.2.1.2.1,x.2.1.2.2.1.2.2.1,()),()),(x.2.2.1,x.2.2.2.1,()))
def yy5:Code:=(zef yip 64 244).getD .skip
theorem yLo:zef yip 64 61=some (.block 0 (.loop yy5)):=by kernel_rfl
theorem yM2 (x:(ybh).X):zg0 ⟨yoD,29,yAG⟩ 0 yy5 244 ybh yeY yjo x=yS x:=by kernel_rfl
def yxJ (x:(ye6).X):Nat:=18446744073709551616
def yp0 (x:(ye6).X):Option ((yeY).X ⊕ (yjo).X):=zz yS (yxJ x) (yxA x)
def yxW:Seg:=⟨ye6,yeY,yjo,yp0⟩
def yAH:Nat→Option Seg:=fun q=>bif Nat.beq q 61 then some yxW else yAG q
theorem yL8:FrOk prog ⟨yoD,29,yAH⟩ yip:=(yL7).loop (sg:=yxW) ybh yxA (by decide) yLo yS yxJ (by decide) (fun _=>rfl) (fun x r _ h=>h) yM2
abbrev yiy:List Par:= [.pt tU .fz,.rd tI]
abbrev yo0:List OT:= [⟨false,tA,(.pr .fz (.pr (.pr .fz .fz) (.pr (.ow (.pr (.ow .fz) (.pr (.ow (.pr .fz .fz)) (.pr .fz (.ow .fz))))) (.pr .fz (.pr .fz (.pr .fz (.pr .fz (.pr .fz (.pr (.ow (.pr .fz .fz)) (.pr .fz (.pr .fz .fz)))))))))))⟩]
def ydD (a0:dU) (a1:Int):Option (ResD yo0×MutD yiy) :=
 bnd (yfJ a0 a1) fun r1 =>
 bnd (ycN r1.2.1 ([(-1),0,1,2,3,4,6,8,11,15,20]:List Int)) fun r2 =>
 bnd (yf r2.2.1 3) fun r3 =>
 zjW (yp0 ((((),()),((),()),((),()),((IntKind.i64.wrap (1+r3.1.1)),()),()),((0,0,0,(),0,0,0,0,0,(),0,false,false,()),(r1.1.1.1,r1.1.1.2.1.1,r1.1.1.2.1.2,(),r1.1.1.2.2.2.1,r1.1.1.2.2.2.2.1,r1.1.1.2.2.2.2.2.1,r1.1.1.2.2.2.2.2.2.1,r1.1.1.2.2.2.2.2.2.2.1,(),r2.1.1,r1.1.1.2.2.2.2.2.2.2.2.2.2.1,r1.1.1.2.2.2.2.2.2.2.2.2.2.2,()),(r3.2.1.1,r3.2.1.2.1,r3.2.1.2.2,()),()),(r1.1.1.2.2.1,r1.1.1.2.2.2.2.2.2.2.2.1,()))) (fun y5 =>
 some (((y5.2.1.2.1.1,(y5.2.1.2.1.2.1,y5.2.1.2.1.2.2.1),y5.2.2.1,y5.2.1.2.1.2.2.2.2.1,y5.2.1.2.1.2.2.2.2.2.1,y5.2.1.2.1.2.2.2.2.2.2.1,y5.2.1.2.1.2.2.2.2.2.2.2.1,y5.2.1.2.1.2.2.2.2.2.2.2.2.1,y5.2.2.2.1,y5.2.1.2.1.2.2.2.2.2.2.2.2.2.2.1,y5.2.1.2.1.2.2.2.2.2.2.2.2.2.2.2.1,y5.2.1.2.1.2.2.2.2.2.2.2.2.2.2.2.2.1),()),((y5.2.1.2.2.1.1,y5.2.1.2.2.1.2.1,y5.2.1.2.2.1.2.2.1),()))) (fun y5 =>
 none)
theorem yUF (x:InD yiy):zju ⟨yoD,29,yAH⟩ f93.results.toList yip yiy yo0 x=ydD x.1 x.2.1:=by kernel_rfl
theorem yPq:ConOk prog 93 ⟨yiy,yo0,fun x=>ydD x.1 x.2.1⟩:=zjZ (yL8) func93 (by kernel_rfl) (by kernel_rfl) ntmps93.symm (by decide) (fun x r h=>(yUF x).trans h)
def yBg:Con:=⟨yiy,yo0,fun x=>ydD x.1 x.2.1⟩
theorem yS8:ConOk prog 93 yBg:=yPq
end
section
def yEz:Code:=(f53.body).getD .skip
def yFb:Env:=zj0 TT [(69,yHH),(71,yFP),(72,yay),(79,yDd),(93,yBg)] []
theorem yLV:FrOk prog ⟨yFb,21,fun _=>none⟩ yEz:=zj4 yc yd ⟨y1I,yZx,ybQ,yWV,yS8,trivial⟩
def yNy:Nat→Option Seg:=fun _=>none
abbrev yiv:List Par:= [.kp tYs .fz]
abbrev yoS:List OT:= [⟨false,tA,(.pr .fz (.pr (.pr .fz .fz) (.pr (.ow (.pr (.ow .fz) (.pr (.ow (.pr .fz .fz)) (.pr .fz (.ow .fz))))) (.pr .fz (.pr .fz (.pr .fz (.pr .fz (.pr .fz (.pr (.ow (.pr .fz .fz)) (.pr .fz (.pr .fz .fz)))))))))))⟩,⟨false,tL,(.ow .fz)⟩,⟨false,tI,.fz⟩]
def ydC (a0:List Int):Option (ResD yoS×MutD yiv) :=
 let r1:=ylL a0
 bnd (yeD r1) fun r2 =>
 bnd (yf r2.2.1 20) fun r3 =>
 let r4:=ydX a0 24
 bnd (ydD r3.2.1 (IntKind.i64.wrap (6+r4))) fun r5 =>
 some ((r5.1.1,r2.1.1,r3.1.1,()),())
theorem yUv (x:InD yiv):zju ⟨yFb,21,yNy⟩ f53.results.toList yEz yiv yoS x=ydC x.1:=by kernel_rfl
theorem yPg:ConOk prog 53 ⟨yiv,yoS,fun x=>ydC x.1⟩:=zjZ (yLV) func53 (by kernel_rfl) (by kernel_rfl) ntmps53.symm (by decide) (fun x r h=>(yUv x).trans h)
def yA9:Con:=⟨yiv,yoS,fun x=>ydC x.1⟩
theorem yS1:ConOk prog 53 yA9:=yPg
theorem y5Z {K x:Int} {V:Int→Int→Int} {a:dA} (h:Lv K V a) (hx: -1≤x∧x≤1000):Lv K V (ymV a x false):=by
 obtain⟨⟨x1,x2,x3,x4,x5,x6,x7,x8,x9⟩,r,n⟩:=h;exact⟨⟨x1,⟨x2.1,hx⟩,rfl,x4,x5,x6,x7,x8,x9⟩,r,⟨n.n,n.z⟩⟩
def Fin (K:Int) (a:dA):Prop:=Keep a∧Can K (fun _ _=>True) a
theorem y6e {K:Int} {V:Int→Int→Int} {a:dA} (h:Lv K V a):Fin K a:=⟨h.x.xk,yQu (y6c h) (Int.le_refl _) (fun _ _ _=>trivial)⟩
theorem yQE {K J:Int} {a:dA} (h:Fin K a) (hj:K≤J):Fin J a:=⟨h.1,yQu h.2 hj (fun _ _ h=>h)⟩
theorem yPQ: ∀(n:Nat) (k:Int) (V:Int→Int→Int) (a:dA) (u:dU) (fuel:Nat),n<fuel→n≤1000→yb7 u→Lv k V a→k+16*n≤60000 →
  ∃(a':dA) (u':dU),zz yS fuel (ybR n yae a u)=some (.inl (yKq yae a' u'))∧Fin (k+16*n) a'
 | 0,k,V,a,u,fuel+1,_,_,hu,h,_=>⟨a,u,by simp only[zz,yS,ybR,yeh]; rfl,yQE (y6e h) (by omega)⟩
 | n+1,k,V,a,u,fuel+1,hf,hn,hu,h,hk=>by
  obtain⟨u1,a1,e1,d1,h1⟩:=y3v u a hu h.x.xc h.x.xk;have ht:=y0e h h1 (by omega);rcases Bool.eq_false_or_eq_true (downA a1)with hd | hd
  ·refine⟨a1,u1,?_,y3j h.x.xk h.x.xc.1 h1,yQu (y4n (ht.2 hd)) (by omega) (fun _ _ _=>trivial)⟩
   rw[zz];simp only[yS,ybR,yeh,zj2 (show(0:Int)<((n+1:Nat):Int)by omega),cond_true,zkp,show((n+1:Nat):Int)-1=(n:Int)by omega,wr (show -9223372036854775808≤(n:Int)by omega) (by omega)];rw[y1Z (show a.2.2.2.2.2.2.2.2.2.2.1=false from h.x.xu),e1,zka];simp only[zkp];obtain⟨fuel,rfl⟩: ∃m,fuel=m+1:=⟨fuel-1,by omega⟩;show zz yS (fuel+1) (ybR n yae a1 u1)=_;rw[zz];simp only[yS,ybR,yeh,zkp]
   cases ltb 0 ((n:Nat):Int)
   ·rfl
   ·rw[cond_true,y4q (show a1.2.2.2.2.2.2.2.2.2.2.1=true from hd)]
  ·obtain⟨V1,h2⟩:=ht.1 hd
   obtain⟨a',u',e2,g2⟩:=yPQ n (k+16) V1 a1 u1 fuel (by omega) (by omega) d1 h2 (by omega);refine⟨a',u',?_,yQE g2 (by omega)⟩;rw[← e2,zz];simp only[yS,ybR,yeh,zj2 (show(0:Int)<((n+1:Nat):Int)by omega),cond_true,zkp,show((n+1:Nat):Int)-1=(n:Int)by omega,wr (show -9223372036854775808≤(n:Int)by omega) (by omega)];rw[y1Z (show a.2.2.2.2.2.2.2.2.2.2.1=false from h.x.xu),e1,zka]
theorem y5Q (u:dU) (most:Int) (h:yb7 u) (h0:0≤most) (h1:most≤30): ∃(a:dA) (u':dU),ydD u most=some ((a,()),(u',()))∧Fin 600 a:=by
 obtain⟨a,u1,k,e1,⟨w1,V,w2⟩,hk,d1⟩:=y3X (P:=fun k a=>Wk k a∧ ∃V,Lv k V a) (K:=480) (fun k a h=>⟨h.1.1,h.1.2.1⟩)
  (fun k a b h ht hk=>by
   obtain⟨hw,V,hi⟩:=h;have hw':=y4V hw ht (by omega)
   exact⟨yeI hw' (by omega),(y0e hi ht (by omega)).1 hw'.2.2.1.1⟩) (fun id g g1 g2 g3=>⟨y4S g1 g2 g3,_,y6l g1 g2 g3⟩) u most h (by omega) (by omega) (by omega)
 obtain⟨x,u2,e2,q3,d2⟩:=y13 u1 [(-1),0,1,2,3,4,6,8,11,15,20] d1 (by simp);obtain⟨r,u3,e3,q4,d3⟩:=ycv u2 3 d2;simp only[List.mem_cons,List.not_mem_nil,or_false]at q3;have:=q4.1; have:=q4.2.1 (by omega);have hlv:=y5Z (x:=x) w2 (by omega);obtain⟨a',u',e4,g1⟩:=yPQ (1+r).toNat k V (ymV a x false) u3 18446744073709551616 (by omega) (by omega) d3 hlv (by omega);rw[show(((1+r).toNat:Nat):Int)=1+r by omega]at e4;unfold ydD;simp only[e1,e2,e3,zka,wr (show -9223372036854775808≤1+r by omega) (by omega)];refine⟨a',u',?_,yQE g1 (by omega)⟩
 have hu:ymV a x false=(a.1,a.2.1,a.2.2.1,a.2.2.2.1,a.2.2.2.2.1,a.2.2.2.2.2.1,a.2.2.2.2.2.2.1,a.2.2.2.2.2.2.2.1,a.2.2.2.2.2.2.2.2.1,x,a.2.2.2.2.2.2.2.2.2.2.1,a.2.2.2.2.2.2.2.2.2.2.2):=by
  unfold ymV;rw[show a.2.2.2.2.2.2.2.2.2.2.1=false from w2.x.xu]
 rw[hu]at e4;exact(congrArg (fun z=>zjW z _ _) (show yp0 (yKy (1+r) yae (a.1,a.2.1,a.2.2.1,a.2.2.2.1,a.2.2.2.2.1,a.2.2.2.2.2.1,a.2.2.2.2.2.2.1,a.2.2.2.2.2.2.2.1,a.2.2.2.2.2.2.2.2.1,x,a.2.2.2.2.2.2.2.2.2.2.1,a.2.2.2.2.2.2.2.2.2.2.2) u3)=_ from e4)).trans rfl
theorem y28 (a0:List Int) (hb:a0.length≤140737488355328): ∃(a:dA) (ks:List Int) (n:Int),ydC a0=some ((a,ks,n,()),())∧Fin 600 a∧0≤n∧n<20:=by
 unfold ydC;obtain⟨h1,h2⟩:=y5R a0 24 (by omega) hb;obtain⟨ks,u1,e1,q1,d1⟩:=y3Y _ (y6d a0 hb);obtain⟨n,u2,e2,q2,d2⟩:=ycv u1 20 d1;obtain⟨a,u3,e3,q3⟩:=y5Q u2 (6+ydX a0 24) d2 (by omega) (by omega);simp only[e1,e2,e3,zka,wr (show -9223372036854775808≤6+ydX a0 24 by omega) (by omega)];exact⟨a,ks,n,rfl,q3,q2.1,q2.2.1 (by omega)⟩
end
section
def yyN:Code:=(f191.body).getD .skip
def yyU:Env:=zj0 TT [(81,yz),(185,yrt)] []
theorem yHP:FrOk prog ⟨yyU,20,fun _=>none⟩ yyN:=zj4 yc yd ⟨yI,yAe,trivial⟩
def yIh:Nat→Option Seg:=fun _=>none
abbrev ycA:List Par:= [.rd tL,.rd tI]
abbrev yi5:List OT:= [⟨false,tI,.fz⟩]
def ygz (a0:List Int) (a1:Int):Option (ResD yi5×MutD ycA) :=
 let r1:=ycb a0
 let r2:=ye a1 0 (IntKind.i64.wrap ((a0.length:Int)-1))
 bif r2 then
 bif(inb a1 a0.length)then
 some (((IntKind.i64.wrap ((BitVec.ofInt IntKind.i64.bits r1 ^^^ BitVec.ofInt IntKind.i64.bits (nth a0 a1 0)).toNat:Int)),()),())
 else none
 else
 some ((r1,()),())
theorem yLv (x:InD ycA):zju ⟨yyU,20,yIh⟩ f191.results.toList yyN ycA yi5 x=ygz x.1 x.2.1:=by kernel_rfl
theorem yIE:ConOk prog 191 ⟨ycA,yi5,fun x=>ygz x.1 x.2.1⟩:=zjZ (yHP) func191 (by kernel_rfl) (by kernel_rfl) ntmps191.symm (by decide) (fun x r h=>(yLv x).trans h)
def yfb (a0:List Int) (a1:Int):Int:=yqm a0 a1
theorem yKz (a0:List Int) (a1:Int) (hk:zi0 ycA (a0,a1,())):ygz a0 a1=(fun n=>some ((n,()),())) (yfb a0 a1):=by
 have hb:a0.length*8≤2^47:=hk.1.1;unfold ygz yfb yqm ycb;rw[y9,yqk (show a0.length≤1152921504606846976 by omega)]
 cases inb a1 a0.length<;>rfl
def ywc:Con:=⟨ycA,yi5,fun x=>(fun n=>some ((n,()),())) (yfb x.1 x.2.1)⟩
theorem yKG:ConOk prog 191 ywc:=(yIE).mono (fun x r hk h=>(yKz x.1 x.2.1 hk).trans h)
end
section
def ypH:Code:=(f138.body).getD .skip
def yvm:Env:=zj0 TT [(55,ylu),(109,ye9),(141,ywf),(191,ywc)] []
theorem yUS:FrOk prog ⟨yvm,62,fun _=>none⟩ ypH:=zj4 yc yd ⟨ytR,yki,yH5,yKG,trivial⟩
def yGT:Nat→Option Seg:=fun _=>none
def ycl:Shape:=⟨[(1,false,[.int .i64]),(2,false,[.ptr 0 0]),(6,false,[.at 800000000]),(7,false,[.int .i64]),(28,false,[.int .i64]),(29,false,[.int .i64])],[(0,[.int .i64,.int .i64,.int .i64,.br tM,.int .i64,.int .i64,.int .i64,.int .i64,.int .i64,.br tW,.int .i64,.bool,.bool])],[(800000000,tI,.fz)]⟩
def yhi:Shape:=⟨[(1,false,[.int .i64]),(2,false,[.ptr 0 0]),(6,false,[.at 800000000]),(7,false,[.ci .i64 (-1)]),(28,false,[.int .i64]),(29,false,[.ci .i64 0])],[(0,[.int .i64,.int .i64,.int .i64,.br tM,.int .i64,.int .i64,.int .i64,.int .i64,.int .i64,.br tW,.int .i64,.bool,.bool])],[(800000000,tI,.fz)]⟩
def yg7:Shape:=⟨[(6,false,[.at 800000000]),(7,false,[.int .i64])],[],[(800000000,tI,.fz)]⟩
def yhw:Shape:=⟨[(4,false,[.nil]),(5,false,[.bool])],[],[]⟩
abbrev ysl (v0 v1 v2 v3:Int) (v4:dA) (v5:List Int):(ycl).X:=(((v0,()),((),()),((),()),(v1,()),(v2,()),(v3,()),()),((v4.1,v4.2.1.1,v4.2.1.2,v4.2.2.1,v4.2.2.2.1,v4.2.2.2.2.1,v4.2.2.2.2.2.1,v4.2.2.2.2.2.2.1,v4.2.2.2.2.2.2.2.1,v4.2.2.2.2.2.2.2.2.1,v4.2.2.2.2.2.2.2.2.2.1,v4.2.2.2.2.2.2.2.2.2.2.1,v4.2.2.2.2.2.2.2.2.2.2.2,()),()),(v5,()))
abbrev yOK (v0 v1:Int) (v2:dA) (v3:List Int):(yhi).X:=(((v0,()),((),()),((),()),((),()),(v1,()),((),()),()),((v2.1,v2.2.1.1,v2.2.1.2,v2.2.2.1,v2.2.2.2.1,v2.2.2.2.2.1,v2.2.2.2.2.2.1,v2.2.2.2.2.2.2.1,v2.2.2.2.2.2.2.2.1,v2.2.2.2.2.2.2.2.2.1,v2.2.2.2.2.2.2.2.2.2.1,v2.2.2.2.2.2.2.2.2.2.2.1,v2.2.2.2.2.2.2.2.2.2.2.2,()),()),(v3,()))
abbrev yOE (v0:Int) (v1:List Int):(yg7).X:=((((),()),(v0,()),()),(),(v1,()))
abbrev yOT (v0:Bool):(yhw).X:=((((),()),(v0,()),()),(),())
def ysD (v0 v1 v2 v3 v4 v5 v6:Int) (v7:List dM) (v8 v9 v10 v11 v12:Int) (v13:List dW) (v14:Int) (v15 v16:Bool) (v17:List Int):Option ((ycl).X ⊕ ((yg7).X ⊕ (yhw).X)) :=
 bif(ltb v3 v2)then
 bnd (ynQ (v4,(v5,v6),v7,v8,v9,v10,v11,v12,v13,v14,v15,v16) v3 v0) fun r4 =>
 bif(!r4.1.2.1)then
 bif(leb 0 v1)then
 some (.inr (.inr ((((),()),(false,()),()),(),())))
 else
 bif(!r4.1.2.1)then
 bif(zjO v17.length ([r4.1.1]:List Int).length 8)then
 some (.inl (((v0,()),((),()),((),()),(v3,()),(v2,()),((IntKind.i64.wrap (v3+1)),()),()),((v4,v5,v6,v7,v8,v9,v10,v11,v12,v13,v14,v15,v16,()),()),((v17++([r4.1.1]:List Int)),())))
 else none
 else
 bif(zjO v17.length ([r4.1.1]:List Int).length 8)then
 some (.inl (((v0,()),((),()),((),()),(v1,()),(v2,()),((IntKind.i64.wrap (v3+1)),()),()),((v4,v5,v6,v7,v8,v9,v10,v11,v12,v13,v14,v15,v16,()),()),((v17++([r4.1.1]:List Int)),())))
 else none
 else
 bif(!r4.1.2.1)then
 bif(zjO v17.length ([r4.1.1]:List Int).length 8)then
 some (.inl (((v0,()),((),()),((),()),(v3,()),(v2,()),((IntKind.i64.wrap (v3+1)),()),()),((v4,v5,v6,v7,v8,v9,v10,v11,v12,v13,v14,v15,v16,()),()),((v17++([r4.1.1]:List Int)),())))
 else none
 else
 bif(zjO v17.length ([r4.1.1]:List Int).length 8)then
 some (.inl (((v0,()),((),()),((),()),(v1,()),(v2,()),((IntKind.i64.wrap (v3+1)),()),()),((v4,v5,v6,v7,v8,v9,v10,v11,v12,v13,v14,v15,v16,()),()),((v17++([r4.1.1]:List Int)),())))
 else none
 else
 some (.inr (.inl ((((),()),(v1,()),()),(),(v17,()))))
def ycP (x:(ycl).X):=ysD x.1.1.1 x.1.2.2.2.1.1 x.1.2.2.2.2.1.1 x.1.2.2.2.2.2.1.1 x.2.1.1.1 x.2.1.1.2.1 x.2.1.1.2.2.1 x.2.1.1.2.2.2.1 x.2.1.1.2.2.2.2.1 x.2.1.1.2.2.2.2.2.1 x.2.1.1.2.2.2.2.2.2.1 x.2.1.1.2.2.2.2.2.2.2.1 x.2.1.1.2.2.2.2.2.2.2.2.1 x.2.1.1.2.2.2.2.2.2.2.2.2.1 x.2.1.1.2.2.2.2.2.2.2.2.2.2.1 x.2.1.1.2.2.2.2.2.2.2.2.2.2.2.1 x.2.1.1.2.2.2.2.2.2.2.2.2.2.2.2.1 x.2.2.1
def yBi (x:(yhi).X):(ycl).X:=(((x.1.1.1,()),((),()),((),()),((-1),()),(x.1.2.2.2.2.1.1,()),(0,()),()),((x.2.1.1.1,x.2.1.1.2.1,x.2.1.1.2.2.1,x.2.1.1.2.2.2.1,x.2.1.1.2.2.2.2.1,x.2.1.1.2.2.2.2.2.1,x.2.1.1.2.2.2.2.2.2.1,x.2.1.1.2.2.2.2.2.2.2.1,x.2.1.1.2.2.2.2.2.2.2.2.1,x.2.1.1.2.2.2.2.2.2.2.2.2.1,x.2.1.1.2.2.2.2.2.2.2.2.2.2.1,x.2.1.1.2.2.2.2.2.2.2.2.2.2.2.1,x.2.1.1.2.2.2.2.2.2.2.2.2.2.2.2.1,()),()),(x.2.2.1,()))
def yCO:Code:=(zef ypH 64 500).getD .skip
theorem yQk:zef ypH 64 125=some (.block 0 (.loop yCO)):=by kernel_rfl
theorem yTe (x:(ycl).X):zg0 ⟨yvm,62,yGT⟩ 0 yCO 500 ycl yg7 yhw x=ycP x:=by kernel_rfl
def yBt (x:(yhi).X):Nat:=18446744073709551616
def yt2 (x:(yhi).X):Option ((yg7).X ⊕ (yhw).X):=zz ycP (yBt x) (yBi x)
def yBJ:Seg:=⟨yhi,yg7,yhw,yt2⟩
def yGU:Nat→Option Seg:=fun q=>bif Nat.beq q 125 then some yBJ else yGT q
theorem yUT:FrOk prog ⟨yvm,62,yGU⟩ ypH:=(yUS).loop (sg:=yBJ) ycl yBi (by decide) yQk ycP yBt (by decide) (fun _=>rfl) (fun x r _ h=>h) yTe
abbrev ykU:List Par:= [.rd tA,.rd tI]
abbrev yvR:List OT:= [⟨false,tL,(.ow .fz)⟩,⟨false,tB,.fz⟩]
def yrN (a0:dA) (a1:Int):Option (ResD yvR×MutD ykU) :=
 let r1:=yam a0
 bif(!(!r1))then
 bif(!a0.2.2.2.2.2.2.2.2.2.2.2)then
 let r2:=yaz a0.2.1 a1
 bif(!r2)then
 some (([],false,()),())
 else
 zjW (yt2 (((a1,()),((),()),((),()),((),()),((a0.2.2.1.length:Int),()),((),()),()),((a0.1,a0.2.1.1,a0.2.1.2,a0.2.2.1,a0.2.2.2.1,a0.2.2.2.2.1,a0.2.2.2.2.2.1,a0.2.2.2.2.2.2.1,a0.2.2.2.2.2.2.2.1,a0.2.2.2.2.2.2.2.2.1,a0.2.2.2.2.2.2.2.2.2.1,a0.2.2.2.2.2.2.2.2.2.2.1,a0.2.2.2.2.2.2.2.2.2.2.2,()),()),(([]:List Int),()))) (fun y4 =>
 bif(leb 0 y4.1.2.1.1)then
 let r6:=yfb y4.2.2.1 y4.1.2.1.1
 bif(inb y4.1.2.1.1 y4.2.2.1.length)then
 some (((y4.2.2.1.set (y4.1.2.1.1).toNat r6),true,()),())
 else none
 else
 some ((y4.2.2.1,true,()),())) (fun y4 =>
 some (([],y4.1.2.1.1,()),()))
 else
 some (([],false,()),())
 else
 some (([],false,()),())
theorem y2d (x:InD ykU):zju ⟨yvm,62,yGU⟩ f138.results.toList ypH ykU yvR x=yrN x.1 x.2.1:=by kernel_rfl
theorem yY2:ConOk prog 138 ⟨ykU,yvR,fun x=>yrN x.1 x.2.1⟩:=zjZ (yUT) func138 (by kernel_rfl) (by kernel_rfl) ntmps138.symm (by decide) (fun x r h=>(y2d x).trans h)
def yqz (a0:dA) (a1:Int):List Int×Bool:=bif yR a0&&(!a0.2.2.2.2.2.2.2.2.2.2.2&&strOk a0.2.1 a1)then yA a0 a1 else([],false)
theorem y1h (a0:dA) (a1:Int) (hk:zi0 ykU (a0,a1,())):yrN a0 a1=(fun n=>some ((n.1,n.2,()),())) (yqz a0 a1):=by
 unfold yrN yqz yam;rw[yGs]
 cases ha:yR a0
 ·rfl
 have hg:=yg.1 (yuW ha);have hl:=yLp ha
 have h1:yt2 (yOK a1 a0.2.2.1.length a0 [])=some (bif yeL (fun(i:Nat)=>yn a0 i a1) a0.2.1.1.toNat then .inr (yOT false)else .inl (yOE (yq (fun(i:Nat)=>yn a0 i a1) a0.2.1.1.toNat) (yK a0 a1 a0.2.1.1.toNat))) :=
  ziM (step:=ycP) (fun i=>ysl a1 (yq (fun(i:Nat)=>yn a0 i a1) i) a0.2.2.1.length i a0 (yK a0 a1 i)) a0.2.1.1.toNat (fun i=> !yn a0 i a1&&leb 0 (yq (fun(i:Nat)=>yn a0 i a1) i)) _ _ (fun i hi=>by
   simp only[ycP,ysl,ysD,zj2 (show(i:Int)<a0.2.2.1.length by omega),cond_true,wr (show -9223372036854775808≤(i:Int)+1 by omega) (by omega),Int.natCast_add,Int.natCast_one,Int.toNat_natCast,zkp,yIa a0 i a1 (zkj (show i<a0.2.2.1.length by omega)),yif,zka,yq];rw[zj8.2 (show((yK a0 a1 i).length+ [yjV a0 i a1].length)*8≤140737488355328 by simp only[List.length_cons,List.length_nil,yfi]; omega),yJ5]
   cases yn a0 i a1<;>cases leb 0 (yq (fun(i:Nat)=>yn a0 i a1) i)<;>rfl) (by simp only[ycP,ysl,ysD,zkv (show(a0.2.2.1.length:Int)≤(a0.2.1.1.toNat:Int)by omega),cond_false]) _ (by show _<18446744073709551616; omega)
 rw[h1]
 cases a0.2.2.2.2.2.2.2.2.2.2.2
 ·cases strOk a0.2.1 a1
  ·rfl
  ·unfold yA
   cases yeL (fun(i:Nat)=>yn a0 i a1) a0.2.1.1.toNat
   ·simp only[cond_false,zkf,yfb]
    cases hm:leb 0 (yq (fun(i:Nat)=>yn a0 i a1) a0.2.1.1.toNat)
    ·rfl
    ·obtain⟨h2,h3⟩:=y0j a0 a1 a0.2.1.1.toNat hm
     rw[h2,h3]; rfl
   ·rfl
 ·rfl
def yHC:Con:=⟨ykU,yvR,fun x=>(fun n=>some ((n.1,n.2,()),())) (yqz x.1 x.2.1)⟩
theorem y1D:ConOk prog 138 yHC:=(yY2).mono (fun x r hk h=>(y1h x.1 x.2.1 hk).trans h)
end
section
def ym3:Code:=(f68.body).getD .skip
def ys5:Env:=zj0 TT [(138,yHC),(142,ywa)] []
theorem yQI:FrOk prog ⟨ys5,39,fun _=>none⟩ ym3:=zj4 yc yd ⟨y1D,yH1,trivial⟩
def yEH:Nat→Option Seg:=fun _=>none
def ybA:Shape:=⟨[(1,false,[.int .i64]),(2,false,[.ptr 0 0]),(6,false,[.at 800000000]),(8,false,[.at 800000001]),(22,false,[.int .i64]),(23,false,[.int .i64])],[(0,[.int .i64,.int .i64,.int .i64,.br tM,.int .i64,.int .i64,.int .i64,.int .i64,.int .i64,.br tW,.int .i64,.bool,.bool])],[(800000000,tI,.fz),(800000001,tI,.fz)]⟩
def ygc:Shape:=⟨[(1,false,[.int .i64]),(2,false,[.ptr 0 0]),(6,false,[.at 800000000]),(8,false,[.at 800000001]),(22,false,[.int .i64]),(23,false,[.ci .i64 0])],[(0,[.int .i64,.int .i64,.int .i64,.br tM,.int .i64,.int .i64,.int .i64,.int .i64,.int .i64,.br tW,.int .i64,.bool,.bool])],[(800000000,tI,.fz),(800000001,tI,.fz)]⟩
def yf0:Shape:=⟨[(8,false,[.at 800000000])],[],[(800000000,tI,.fz)]⟩
def yj4:Shape:=⟨[],[],[]⟩
abbrev yqn (v0 v1 v2:Int) (v3:dA) (v4 v5:List Int):(ybA).X:=(((v0,()),((),()),((),()),((),()),(v1,()),(v2,()),()),((v3.1,v3.2.1.1,v3.2.1.2,v3.2.2.1,v3.2.2.2.1,v3.2.2.2.2.1,v3.2.2.2.2.2.1,v3.2.2.2.2.2.2.1,v3.2.2.2.2.2.2.2.1,v3.2.2.2.2.2.2.2.2.1,v3.2.2.2.2.2.2.2.2.2.1,v3.2.2.2.2.2.2.2.2.2.2.1,v3.2.2.2.2.2.2.2.2.2.2.2,()),()),(v4,v5,()))
abbrev yMl (v0 v1:Int) (v2:dA) (v3 v4:List Int):(ygc).X:=(((v0,()),((),()),((),()),((),()),(v1,()),((),()),()),((v2.1,v2.2.1.1,v2.2.1.2,v2.2.2.1,v2.2.2.2.1,v2.2.2.2.2.1,v2.2.2.2.2.2.1,v2.2.2.2.2.2.2.1,v2.2.2.2.2.2.2.2.1,v2.2.2.2.2.2.2.2.2.1,v2.2.2.2.2.2.2.2.2.2.1,v2.2.2.2.2.2.2.2.2.2.2.1,v2.2.2.2.2.2.2.2.2.2.2.2,()),()),(v3,v4,()))
abbrev yzH (v0:List Int):(yf0).X:=((((),()),()),(),(v0,()))
def yqH (v0 v1 v2 v3 v4 v5:Int) (v6:List dM) (v7 v8 v9 v10 v11:Int) (v12:List dW) (v13:Int) (v14 v15:Bool) (v16 v17:List Int):Option ((ybA).X ⊕ ((yf0).X ⊕ (yj4).X)) :=
 bif(ltb v2 v1)then
 let r3:=yfS (v4,v5) v0 v2
 bif(inb r3 v16.length)then
 bif(zjO v17.length ([(nth v16 r3 0)]:List Int).length 8)then
 some (.inl (((v0,()),((),()),((),()),((),()),(v1,()),((IntKind.i64.wrap (v2+1)),()),()),((v3,v4,v5,v6,v7,v8,v9,v10,v11,v12,v13,v14,v15,()),()),(v16,(v17++([(nth v16 r3 0)]:List Int)),())))
 else none
 else none
 else
 some (.inr (.inl ((((),()),()),(),(v17,()))))
def ybS (x:(ybA).X):=yqH x.1.1.1 x.1.2.2.2.2.1.1 x.1.2.2.2.2.2.1.1 x.2.1.1.1 x.2.1.1.2.1 x.2.1.1.2.2.1 x.2.1.1.2.2.2.1 x.2.1.1.2.2.2.2.1 x.2.1.1.2.2.2.2.2.1 x.2.1.1.2.2.2.2.2.2.1 x.2.1.1.2.2.2.2.2.2.2.1 x.2.1.1.2.2.2.2.2.2.2.2.1 x.2.1.1.2.2.2.2.2.2.2.2.2.1 x.2.1.1.2.2.2.2.2.2.2.2.2.2.1 x.2.1.1.2.2.2.2.2.2.2.2.2.2.2.1 x.2.1.1.2.2.2.2.2.2.2.2.2.2.2.2.1 x.2.2.1 x.2.2.2.1
def yzd (x:(ygc).X):(ybA).X:=(((x.1.1.1,()),((),()),((),()),((),()),(x.1.2.2.2.2.1.1,()),(0,()),()),((x.2.1.1.1,x.2.1.1.2.1,x.2.1.1.2.2.1,x.2.1.1.2.2.2.1,x.2.1.1.2.2.2.2.1,x.2.1.1.2.2.2.2.2.1,x.2.1.1.2.2.2.2.2.2.1,x.2.1.1.2.2.2.2.2.2.2.1,x.2.1.1.2.2.2.2.2.2.2.2.1,x.2.1.1.2.2.2.2.2.2.2.2.2.1,x.2.1.1.2.2.2.2.2.2.2.2.2.2.1,x.2.1.1.2.2.2.2.2.2.2.2.2.2.2.1,x.2.1.1.2.2.2.2.2.2.2.2.2.2.2.2.1,()),()),(x.2.2.1,x.2.2.2.1,()))
def yAL:Code:=(zef ym3 64 500).getD .skip
theorem yNG:zef ym3 64 125=some (.block 0 (.loop yAL)):=by kernel_rfl
theorem yPx (x:(ybA).X):zg0 ⟨ys5,39,yEH⟩ 0 yAL 500 ybA yf0 yj4 x=ybS x:=by kernel_rfl
def yzs (x:(ygc).X):Nat:=18446744073709551616
def yr1 (x:(ygc).X):Option ((yf0).X ⊕ (yj4).X):=zz ybS (yzs x) (yzd x)
def yzR:Seg:=⟨ygc,yf0,yj4,yr1⟩
def yEI:Nat→Option Seg:=fun q=>bif Nat.beq q 125 then some yzR else yEH q
theorem yQJ:FrOk prog ⟨ys5,39,yEI⟩ ym3:=(yQI).loop (sg:=yzR) ybA yzd (by decide) yNG ybS yzs (by decide) (fun _=>rfl) (fun x r _ h=>h) yPx
abbrev yhX:List Par:= [.rd tA,.rd tI]
abbrev ytg:List OT:= [⟨false,tL,(.ow .fz)⟩,⟨false,tB,.fz⟩]
def ypn (a0:dA) (a1:Int):Option (ResD ytg×MutD yhX) :=
 let r1:=yqz a0 a1
 bif(!r1.2)then
 some (([],false,()),())
 else
 zjW (yr1 (((a1,()),((),()),((),()),((),()),((IntKind.i64.wrap (a0.2.1.1-1)),()),((),()),()),((a0.1,a0.2.1.1,a0.2.1.2,a0.2.2.1,a0.2.2.2.1,a0.2.2.2.2.1,a0.2.2.2.2.2.1,a0.2.2.2.2.2.2.1,a0.2.2.2.2.2.2.2.1,a0.2.2.2.2.2.2.2.2.1,a0.2.2.2.2.2.2.2.2.2.1,a0.2.2.2.2.2.2.2.2.2.2.1,a0.2.2.2.2.2.2.2.2.2.2.2,()),()),(r1.1,([]:List Int),()))) (fun y3 =>
 some ((y3.2.2.1,true,()),())) (fun y3 =>
 none)
theorem y0x (x:InD yhX):zju ⟨ys5,39,yEI⟩ f68.results.toList ym3 yhX ytg x=ypn x.1 x.2.1:=by kernel_rfl
theorem yV4:ConOk prog 68 ⟨yhX,ytg,fun x=>ypn x.1 x.2.1⟩:=zjZ (yQJ) func68 (by kernel_rfl) (by kernel_rfl) ntmps68.symm (by decide) (fun x r h=>(y0x x).trans h)
def ynG (a0:dA) (a1:Int):List Int×Bool:=ydp a0 a1
theorem yYp (a0:dA) (a1:Int) (hk:zi0 yhX (a0,a1,())):ypn a0 a1=(fun n=>some ((n.1,n.2,()),())) (ynG a0 a1):=by
 unfold ypn ynG ydp yqz
 cases hc:(yR a0&&(!a0.2.2.2.2.2.2.2.2.2.2.2&&strOk a0.2.1 a1))
 ·rfl
 simp only[Bool.and_eq_true]at hc;have hg:=yg.1 (yuW hc.1);have hs:=hc.2.2;unfold ytM;simp only[cond_true]
 cases hw:(yA a0 a1).2
 ·rfl
 ·have hL:=yNb hw
  have h1:yr1 (yMl a1 (a0.2.1.1-1) a0 (yA a0 a1).1 [])=some (.inl (yzH ((List.range (a0.2.1.1-1).toNat).foldl (fun l (i:Nat)=>l++ [nth (yA a0 a1).1 (ybi a0.2.1 a1 i) 0]) []))) :=
   zj6 (step:=ybS) (a0.2.1.1-1).toNat (fun i s=>yqn a1 (a0.2.1.1-1) i a0 (yA a0 a1).1 s) (fun l (i:Nat)=>l++ [nth (yA a0 a1).1 (ybi a0.2.1 a1 i) 0]) (fun i s=>s.length=i) (fun s=> .inl (yzH s)) (fun i s hi hs2=>⟨by
    have hd:=yXJ hs (show(0:Int)≤i by omega) (show(i:Int)≤a0.2.1.1-2 by omega);simp only[ybS,yqn,yqH,zj2 (show(i:Int)<a0.2.1.1-1 by omega),cond_true,wr (show -9223372036854775808≤(i:Int)+1 by omega) (by omega),Int.natCast_add,Int.natCast_one,Int.toNat_natCast,zkp,yfS,zjA.2 (show 0≤ybi a0.2.1 a1 i∧ybi a0.2.1 a1 i<(yA a0 a1).1.length by omega)]
    rw[zj8.2 (show(s.length+ [nth (yA a0 a1).1 (ybi a0.2.1 a1 i) 0].length)*8≤140737488355328 by simp only[List.length_cons,List.length_nil]; omega)]; rfl,by simp[hs2]⟩) (fun s hs2=>by simp only[ybS,yqn,yqH,zkv (show a0.2.1.1-1≤((a0.2.1.1-1).toNat:Int)by omega),cond_false]) [] rfl _ (by show _<18446744073709551616; omega)
  simp only[wr (show -9223372036854775808≤a0.2.1.1-1 by omega) (by omega)];rw[h1,yrv]; rfl
def yFC:Con:=⟨yhX,ytg,fun x=>(fun n=>some ((n.1,n.2,()),())) (ynG x.1 x.2.1)⟩
theorem yZk:ConOk prog 68 yFC:=(yV4).mono (fun x r hk h=>(yYp x.1 x.2.1 hk).trans h)
end
section
def ykD:Code:=(f54.body).getD .skip
def yqW:Env:=zj0 TT [(68,yFC),(123,ylv)] []
theorem yNY:FrOk prog ⟨yqW,32,fun _=>none⟩ ykD:=zj4 yc yd ⟨yZk,ytS,trivial⟩
def yCd:Nat→Option Seg:=fun _=>none
def ybB:Shape:=⟨[(1,false,[.ptr 0 0]),(3,false,[.at 800000000]),(15,false,[.int .i64]),(16,false,[.int .i64])],[(0,[.int .i64,.int .i64,.int .i64,.br tM,.int .i64,.int .i64,.int .i64,.int .i64,.int .i64,.br tW,.int .i64,.bool,.bool])],[(800000000,tI,.fz)]⟩
def ygd:Shape:=⟨[(1,false,[.ptr 0 0]),(3,false,[.at 800000000]),(15,false,[.int .i64]),(16,false,[.ci .i64 0])],[(0,[.int .i64,.int .i64,.int .i64,.br tM,.int .i64,.int .i64,.int .i64,.int .i64,.int .i64,.br tW,.int .i64,.bool,.bool])],[(800000000,tI,.fz)]⟩
def yf1:Shape:=⟨[(3,false,[.at 800000000])],[],[(800000000,tI,.fz)]⟩
def ygp:Shape:=⟨[(2,false,[.nil])],[],[]⟩
abbrev yqo (v0 v1:Int) (v2:dA) (v3:List Int):(ybB).X:=((((),()),((),()),(v0,()),(v1,()),()),((v2.1,v2.2.1.1,v2.2.1.2,v2.2.2.1,v2.2.2.2.1,v2.2.2.2.2.1,v2.2.2.2.2.2.1,v2.2.2.2.2.2.2.1,v2.2.2.2.2.2.2.2.1,v2.2.2.2.2.2.2.2.2.1,v2.2.2.2.2.2.2.2.2.2.1,v2.2.2.2.2.2.2.2.2.2.2.1,v2.2.2.2.2.2.2.2.2.2.2.2,()),()),(v3,()))
abbrev yMm (v0:Int) (v1:dA) (v2:List Int):(ygd).X:=((((),()),((),()),(v0,()),((),()),()),((v1.1,v1.2.1.1,v1.2.1.2,v1.2.2.1,v1.2.2.2.1,v1.2.2.2.2.1,v1.2.2.2.2.2.1,v1.2.2.2.2.2.2.1,v1.2.2.2.2.2.2.2.1,v1.2.2.2.2.2.2.2.2.1,v1.2.2.2.2.2.2.2.2.2.1,v1.2.2.2.2.2.2.2.2.2.2.1,v1.2.2.2.2.2.2.2.2.2.2.2,()),()),(v2,()))
abbrev yzI (v0:List Int):(yf1).X:=((((),()),()),(),(v0,()))
abbrev yMx  :(ygp).X:=((((),()),()),(),())
def yqI (v0 v1 v2 v3 v4:Int) (v5:List dM) (v6 v7 v8 v9 v10:Int) (v11:List dW) (v12:Int) (v13 v14:Bool) (v15:List Int):Option ((ybB).X ⊕ ((yf1).X ⊕ (ygp).X)) :=
 bif(ltb v1 v0)then
 let r3:=ynG (v2,(v3,v4),v5,v6,v7,v8,v9,v10,v11,v12,v13,v14) v1
 bif(!r3.2)then
 some (.inr (.inr ((((),()),()),(),())))
 else
 bif(zjO v15.length r3.1.length 8)then
 some (.inl ((((),()),((),()),(v0,()),((IntKind.i64.wrap (v1+1)),()),()),((v2,v3,v4,v5,v6,v7,v8,v9,v10,v11,v12,v13,v14,()),()),((v15++r3.1),())))
 else none
 else
 some (.inr (.inl ((((),()),()),(),(v15,()))))
def ybT (x:(ybB).X):=yqI x.1.2.2.1.1 x.1.2.2.2.1.1 x.2.1.1.1 x.2.1.1.2.1 x.2.1.1.2.2.1 x.2.1.1.2.2.2.1 x.2.1.1.2.2.2.2.1 x.2.1.1.2.2.2.2.2.1 x.2.1.1.2.2.2.2.2.2.1 x.2.1.1.2.2.2.2.2.2.2.1 x.2.1.1.2.2.2.2.2.2.2.2.1 x.2.1.1.2.2.2.2.2.2.2.2.2.1 x.2.1.1.2.2.2.2.2.2.2.2.2.2.1 x.2.1.1.2.2.2.2.2.2.2.2.2.2.2.1 x.2.1.1.2.2.2.2.2.2.2.2.2.2.2.2.1 x.2.2.1
def yze (x:(ygd).X):(ybB).X:=((((),()),((),()),(x.1.2.2.1.1,()),(0,()),()),((x.2.1.1.1,x.2.1.1.2.1,x.2.1.1.2.2.1,x.2.1.1.2.2.2.1,x.2.1.1.2.2.2.2.1,x.2.1.1.2.2.2.2.2.1,x.2.1.1.2.2.2.2.2.2.1,x.2.1.1.2.2.2.2.2.2.2.1,x.2.1.1.2.2.2.2.2.2.2.2.1,x.2.1.1.2.2.2.2.2.2.2.2.2.1,x.2.1.1.2.2.2.2.2.2.2.2.2.2.1,x.2.1.1.2.2.2.2.2.2.2.2.2.2.2.1,x.2.1.1.2.2.2.2.2.2.2.2.2.2.2.2.1,()),()),(x.2.2.1,()))
def yAM:Code:=(zef ykD 64 244).getD .skip
theorem yNH:zef ykD 64 61=some (.block 0 (.loop yAM)):=by kernel_rfl
theorem yPy (x:(ybB).X):zg0 ⟨yqW,32,yCd⟩ 0 yAM 244 ybB yf1 ygp x=ybT x:=by kernel_rfl
def yzt (x:(ygd).X):Nat:=18446744073709551616
def yr2 (x:(ygd).X):Option ((yf1).X ⊕ (ygp).X):=zz ybT (yzt x) (yze x)
def yzS:Seg:=⟨ygd,yf1,ygp,yr2⟩
def yCe:Nat→Option Seg:=fun q=>bif Nat.beq q 61 then some yzS else yCd q
theorem yNZ:FrOk prog ⟨yqW,32,yCe⟩ ykD:=(yNY).loop (sg:=yzS) ybB yze (by decide) yNH ybT yzt (by decide) (fun _=>rfl) (fun x r _ h=>h) yPy
abbrev ygF:List Par:= [.rd tA]
abbrev yq8:List OT:= [⟨false,tL,(.ow .fz)⟩]
def ymA (a0:dA):Option (ResD yq8×MutD ygF) :=
 let r1:=ydq a0.2.1
 bif(!r1)then
 some ((([]:List Int),()),())
 else
 zjW (yr2 ((((),()),((),()),(a0.2.1.2,()),((),()),()),((a0.1,a0.2.1.1,a0.2.1.2,a0.2.2.1,a0.2.2.2.1,a0.2.2.2.2.1,a0.2.2.2.2.2.1,a0.2.2.2.2.2.2.1,a0.2.2.2.2.2.2.2.1,a0.2.2.2.2.2.2.2.2.1,a0.2.2.2.2.2.2.2.2.2.1,a0.2.2.2.2.2.2.2.2.2.2.1,a0.2.2.2.2.2.2.2.2.2.2.2,()),()),(([]:List Int),()))) (fun y3 =>
 some ((y3.2.2.1,()),())) (fun y3 =>
 some (([],()),()))
theorem yXK (x:InD ygF):zju ⟨yqW,32,yCe⟩ f54.results.toList ykD ygF yq8 x=ymA x.1:=by kernel_rfl
theorem ySq:ConOk prog 54 ⟨ygF,yq8,fun x=>ymA x.1⟩:=zjZ (yNZ) func54 (by kernel_rfl) (by kernel_rfl) ntmps54.symm (by decide) (fun x r h=>(yXK x).trans h)
def ybn (a0:dA):List Int:=yB7 a0
theorem yVD (a0:dA) (hk:zi0 ygF (a0,())):ymA a0=(fun n=>some ((n,()),())) (ybn a0):=by
 unfold ymA ybn yB7;rw[yL9]
 cases hg0:n_spec_GeoOk a0.2.1
 ·rw[show yR a0=false by unfold yR; rw[hg0]; rfl]; rfl
 have hg:=yg.1 hg0
 have h1:yr2 (yMm a0.2.1.2 a0 [])=some (bif(List.range a0.2.1.2.toNat).all (fun(s:Nat)=>(ydp a0 s).2)then .inl (yzI ((List.range a0.2.1.2.toNat).foldl (fun l (s:Nat)=>l++(ydp a0 s).1) []))else .inr (yMx)) :=
  zhq (step:=ybT) a0.2.1.2.toNat (fun i s=>yqo a0.2.1.2 i a0 s) (fun(s:Nat)=>(ydp a0 s).2) (fun l (s:Nat)=>l++(ydp a0 s).1) (fun i s=>s.length≤4*i) (fun s=> .inl (yzI s)) _ (fun i s hi hs=>by
   have:=y3U i hg0;refine⟨?_,fun _=>by rw[List.length_append]; omega⟩;simp only[ybT,yqo,yqI,zj2 (show(i:Int)<a0.2.1.2 by omega),cond_true,wr (show -9223372036854775808≤(i:Int)+1 by omega) (by omega),Int.natCast_add,Int.natCast_one,Int.toNat_natCast,zkp,ynG,zj8.2 (show(s.length+(ydp a0 i).1.length)*8≤140737488355328 by omega)]
   cases(ydp a0 i).2<;>rfl) (fun s hs=>by simp only[ybT,yqo,yqI,zkv (show a0.2.1.2≤(a0.2.1.2.toNat:Int)by omega),cond_false]) [] (Nat.zero_le _) _ (by show _<18446744073709551616; omega)
 rw[h1,yZ7]
 cases ha:yR a0
 ·have:(List.range a0.2.1.2.toNat).all (fun(s:Nat)=>(ydp a0 s).2)=false:=by
   rw[List.all_eq_false];refine⟨0,List.mem_range.2 (by omega),?_⟩;unfold ydp;rw[ha]; simp
  rw[this]; rfl
 ·cases(List.range a0.2.1.2.toNat).all (fun(s:Nat)=>(ydp a0 s).2)<;>rfl
def yCY:Con:=⟨ygF,yq8,fun x=>(fun n=>some ((n,()),())) (ybn x.1)⟩
theorem yWF:ConOk prog 54 yCY:=(ySq).mono (fun x r hk h=>(yVD x.1 hk).trans h)
end
section
def yKP:Code:=(f56.body).getD .skip
def yK4:Env:=zj0 TT [] []
theorem yUK:FrOk prog ⟨yK4,7,fun _=>none⟩ yKP:=zj4 yc yd trivial
def yXo:Nat→Option Seg:=fun _=>none
abbrev yp1:List Par:= [.rd tA]
abbrev yvM:List OT:= [⟨false,tB,.fz⟩]
def yyr (a0:dA):Option (ResD yvM×MutD yp1) :=
 some ((((a0.2.2.2.2.2.2.2.2.1.length:Int)==0),()),())
theorem y16 (x:InD yp1):zju ⟨yK4,7,yXo⟩ f56.results.toList yKP yp1 yvM x=yyr x.1:=by kernel_rfl
theorem yYX:ConOk prog 56 ⟨yp1,yvM,fun x=>yyr x.1⟩:=zjZ (yUK) func56 (by kernel_rfl) (by kernel_rfl) ntmps56.symm (by decide) (fun x r h=>(y16 x).trans h)
def ylD (a0:dA):Bool :=
 ((a0.2.2.2.2.2.2.2.2.1.length:Int)==0)
def yHB:Con:=⟨yp1,yvM,fun x=>(fun n=>some ((n,()),())) (ylD x.1)⟩
theorem y1c (a0:dA):yyr a0=(fun n=>some ((n,()),())) (ylD a0):=zkn (p:=fun(n:Bool)=>((n,()),())) rfl
theorem y1C:ConOk prog 56 yHB:=(yYX).mono (fun x r _ h=>(y1c x.1).trans h)
end
section
def yGF:Code:=(f7.body).getD .skip
def yHh:Env:=zj0 TT [(14,yLr),(19,yC1),(34,yA3),(48,yJV),(49,yA8),(53,yA9),(54,yCY),(56,yHB)] []
theorem yOj:FrOk prog ⟨yHh,84,fun _=>none⟩ yGF:=zj4 yc yd ⟨y3m,yWI,ySV,y2R,yS0,yS1,yWF,y1C,trivial⟩
def yP8:Nat→Option Seg:=fun _=>none
abbrev ygM:List Par:= [.kp tYs .fz]
abbrev yri:List OT:= [⟨false,tB,.fz⟩]
def ymJ (a0:List Int):Option (ResD yri×MutD ygM) :=
 let r1:=ywK a0
 bif r1 then
 some ((true,()),())
 else
 bnd (ydC a0) fun r2 =>
 let r3:=ybP r2.1.1
 let r4:=ycK r3.2.2.1 r2.1.2.1 r2.1.1.1 r2.1.2.2.1
 bif(!r4.2)then
 some ((false,()),())
 else
 bif r4.1.2.2.2.2.2.2.2.2.2.2.1 then
 let r5:=ycK r4.1.2.2.1 r2.1.2.1 r2.1.1.1 (-1)
 bif(!(!r5.2))then
 bif(!r5.1.2.2.2.2.2.2.2.2.2.2.1)then
 bif r5.1.2.2.2.2.2.2.2.2.2.2.2 then
 some ((false,()),())
 else
 let r6:=ybP r5.1
 let r7:=ycK r6.2.2.1 ([]:List Int) r2.1.1.1 (-1)
 bif r7.2 then
 let r8:=ybn r7.1
 let r9:=ybn r5.1
 let r10:=ydu r8 r9
 bif r10 then
 let r11:=yeM r5.1
 bif r11 then
 let r12:=yeM r7.1
 bif r12 then
 let r13:=ylD r7.1
 some ((r13,()),())
 else
 some ((false,()),())
 else
 some ((false,()),())
 else
 some ((false,()),())
 else
 some ((false,()),())
 else
 some ((false,()),())
 else
 some ((false,()),())
 else
 bif(!(!r4.2))then
 bif(!r4.1.2.2.2.2.2.2.2.2.2.2.1)then
 bif r4.1.2.2.2.2.2.2.2.2.2.2.2 then
 some ((false,()),())
 else
 let r14:=ybP r4.1
 let r15:=ycK r14.2.2.1 ([]:List Int) r2.1.1.1 (-1)
 bif r15.2 then
 let r16:=ybn r15.1
 let r17:=ybn r4.1
 let r18:=ydu r16 r17
 bif r18 then
 let r19:=yeM r4.1
 bif r19 then
 let r20:=yeM r15.1
 bif r20 then
 let r21:=ylD r15.1
 some ((r21,()),())
 else
 some ((false,()),())
 else
 some ((false,()),())
 else
 some ((false,()),())
 else
 some ((false,()),())
 else
 some ((false,()),())
 else
 some ((false,()),())
theorem yXW (x:InD ygM):zju ⟨yHh,84,yP8⟩ f7.results.toList yGF ygM yri x=ymJ x.1:=by kernel_rfl
theorem ySC:ConOk prog 7 ⟨ygM,yri,fun x=>ymJ x.1⟩:=zjZ (yOj) func7 (by kernel_rfl) (by kernel_rfl) ntmps7.symm (by decide) (fun x r h=>(yXW x).trans h)
def yyg (a0:List Int):Bool:=true
theorem y4G (a:dA):(ybP a).2.2.1=a.2.2.1:=by unfold ybP; cases yR a<;>rfl
theorem yUd {K id:Int} {g:dG} {V:Int→Int→Int} {Lf:Int} {l:List dM} {y:dA} (h:Back K id g V Lf l y) (hK:K+1≤60000) (hu:downA y=false): ∃z,ymU y.2.2.1 [] id (-1)=(z,true)∧Ix (K+1) V z∧yB7 z=yB7 y∧z.2.2.2.2.2.2.2.2.1= []:=by
 obtain⟨hx,⟨R,_,hr⟩,ht,_⟩:=h.up hu;obtain⟨Bf,⟨p1,_⟩,w1,w2⟩:=hr _ (flA y) y.2.2.2.1 (y3x h.bk []) (yHt y);have hB:=p1 ⟨rfl,fun _ _ _=>rfl⟩
 obtain⟨z,e,b,zb,zd⟩:=yM4 (ks:= []) (fuse:= -1) (K:=K) h.bk.1.2 (fun i i0 i1=>by
  have:=ycJ h.bk i0 i1
  exact⟨this.1,this.2.1⟩) hx.xg hx.xs hK (by omega) w1 w2
 rw[h.bi]at e;obtain⟨uz,_,_,_⟩:=b.up (yXi e);refine⟨z,e,uz,?_,b.bc⟩;rw[yVn uz,yVn hx,b.bg]
 have hl: ∀s,s∈List.range y.2.1.2.toNat→yd2 z s=yd2 y s:=fun s hs=>by
  have hs:=List.mem_range.1 hs;unfold yd2;rw[b.bg]
  have: ∀n,n≤y.2.1.1.toNat→ypg (fun(i:Nat)=>hasW z s i) n=ypg (fun(i:Nat)=>hasW y s i) n:=by
   intro n
   induction n with
   | zero=>intro _; rfl
   | succ n ih =>
    intro hn
    have e1:hasW z s n=hasW y s n:=by
     have f1:flA z n=flA y n:=b.bf n (by omega) (by omega);have f2:bdA z n (s+6)=bdA y n (s+6):=zd ht n (s+6) (by omega) (by omega) (by omega);unfold flA at f1;unfold bdA at f2;unfold hasW yM;rw[b.bl,zb,hB,f1,f2]
    rw[ywB,ywB,ih (by omega),e1]
  exact this _ (Nat.le_refl _)
 have ha:(List.range y.2.1.2.toNat).all (fun(s:Nat)=>decide (yd2 z s<2))=(List.range y.2.1.2.toNat).all (fun(s:Nat)=>decide (yd2 y s<2)):=by
  rw[Bool.eq_iff_iff,List.all_eq_true,List.all_eq_true];exact⟨fun g s hs=>by rw[← hl s hs]; exact g s hs,fun g s hs=>by rw[hl s hs]; exact g s hs⟩
 rw[ha]
theorem yVP (a0:List Int) (hk:zi0 ygM (a0,())):ymJ a0=(fun n=>some ((n,()),())) (yyg a0):=by
 have hb:a0.length≤140737488355328:=by have:a0.length*1≤2^47:=hk.1.1; omega
 obtain⟨a,ks,n,e1,⟨ka,ca⟩,n0,n1⟩:=y28 a0 hb;obtain⟨x,V,Lf,ex,_,bx⟩:=yP1 (fuse:=n) ka ca (by omega) ks (by omega);unfold ymJ yyg;simp only[e1,zka,y4G,ycK,ex];rcases Bool.eq_false_or_eq_true (downA x)with hd | hd
 ·obtain⟨y,V2,Lf2,ey,_,byy⟩:=yP1 (fuse:= -1) bx.bk (y44 bx hd) (by omega) ks (by omega)
  have hu:=yXi ey;obtain⟨z,ez,uz,dz,cz⟩:=yUd byy (by omega) hu;rw[bx.bi]at ey ez;rw[show x.2.2.2.2.2.2.2.2.2.2.1=true from hd];simp only[ey,ez,byy.bb,show y.2.2.2.2.2.2.2.2.2.2.1=false from hu,ybn,dz,yJ3,yeM,yNh uz,yNh (byy.up hu).1,ylD,cz]
  cases ywK a0<;>rfl
 ·obtain⟨z,ez,uz,dz,cz⟩:=yUd bx (by omega) hd
  rw[show x.2.2.2.2.2.2.2.2.2.2.1=false from hd];simp only[ez,bx.bb,ybn,dz,yJ3,yeM,yNh uz,yNh (bx.up hd).1,ylD,cz]
  cases ywK a0<;>rfl
def yQw:Con:=⟨ygM,yri,fun x=>(fun n=>some ((n,()),())) (yyg x.1)⟩
theorem yWM:ConOk prog 7 yQw:=(ySC).mono (fun x r hk h=>(yVP x.1 hk).trans h)
end
end
end Go.Tf
